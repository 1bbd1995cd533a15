import PyProof.Rows.All
import PySem.Challenge.RW_noughtforms_k80_whole_desks_led
import Wide.All
import OpenK.AllK
import Wide.FinOn
import HandS.ForMost
import HandS.ForExc
import HandS.TupAny
import HandS.Star
import HandS.Defaults
import HandS.SortInts
import HandS.Lambda
import KE.DatumOrd
import PyProof.ReprLen
import HandS.RaiseMore
import HandS.IsInst
import HandS.More
import HandS.List
import HandS.ExcInit
import HandS.ExcIs
import KE.GoesMore
import HandS.Iter
import HandS.Style
import HandS.ExcField
import HandS.TryMany
import KE.KExcIs
import HandS.NestedK
import HandS.EndTab
set_option Elab.async false
set_option linter.all false
set_option maxRecDepth 100000
section
/-! PI0: a small language of defs (IE, IS), and what a def of it gives, as a function that can be run. -/
namespace PI
open PySem (Str PyData)

/-- a value: data as it stands, a cell that may change, a def -/
inductive W where
  | non | bl (b : Bool) | int (i : Int) | str (x : Str)
  | tup (xs : List W) | lst (xs : List W)
  | ref (n : Nat) | fn (i : Nat) | lam (i : Nat)

/-- what a cell holds -/
inductive Cell where
  | dead
  | lst (xs : List W)
  | ins (c : Nat) (fs : List (Option W))
  | dct (ks : List L2.Key) (xs : List W)
  | tab (i : Nat)

abbrev Hh := List Cell
abbrev Rho := List (Option W)

mutual
def W.beq : W → W → Bool
  | .non, .non => true
  | .bl a, .bl b => a == b
  | .int a, .int b => a == b
  | .str a, .str b => a == b
  | .tup a, .tup b => W.beqs a b
  | .lst a, .lst b => W.beqs a b
  | .ref a, .ref b => a == b
  | .fn a, .fn b => a == b
  | .lam a, .lam b => a == b
  | _, _ => false
def W.beqs : List W → List W → Bool
  | [], [] => true
  | a :: as, b :: bs => W.beq a b && W.beqs as bs
  | _, _ => false
end
mutual
theorem W.beq_eq : ∀ a b : W, W.beq a b = true → a = b
  | .non, b, h => by cases b <;> simp_all [W.beq]
  | .bl _, b, h => by cases b <;> simp_all [W.beq]
  | .int _, b, h => by cases b <;> simp_all [W.beq]
  | .str _, b, h => by cases b <;> simp_all [W.beq]
  | .tup xs, b, h => by
    cases b with
    | tup ys => rw [W.beqs_eq xs ys (by simpa [W.beq] using h)]
    | _ => simp [W.beq] at h
  | .lst xs, b, h => by
    cases b with
    | lst ys => rw [W.beqs_eq xs ys (by simpa [W.beq] using h)]
    | _ => simp [W.beq] at h
  | .ref _, b, h => by cases b <;> simp_all [W.beq]
  | .fn _, b, h => by cases b <;> simp_all [W.beq]
  | .lam _, b, h => by cases b <;> simp_all [W.beq]
theorem W.beqs_eq : ∀ a b : List W, W.beqs a b = true → a = b
  | [], [], _ => rfl
  | [], _ :: _, h => by simp [W.beqs] at h
  | _ :: _, [], h => by simp [W.beqs] at h
  | a :: as, b :: bs, h => by
    have h' : W.beq a b = true ∧ W.beqs as bs = true := by simpa [W.beqs] using h
    rw [W.beq_eq a b h'.1, W.beqs_eq as bs h'.2]
end
mutual
theorem W.beq_rfl : ∀ a : W, W.beq a a = true
  | .non => by simp [W.beq]
  | .bl _ => by simp [W.beq]
  | .int _ => by simp [W.beq]
  | .str _ => by simp [W.beq]
  | .tup xs => by simpa [W.beq] using W.beqs_rfl xs
  | .lst xs => by simpa [W.beq] using W.beqs_rfl xs
  | .ref _ => by simp [W.beq]
  | .fn _ => by simp [W.beq]
  | .lam _ => by simp [W.beq]
theorem W.beqs_rfl : ∀ a : List W, W.beqs a a = true
  | [] => by simp [W.beqs]
  | a :: as => by simp [W.beqs, W.beq_rfl a, W.beqs_rfl as]
end
/-- fields: what stands is the same -/
def fbeq : List (Option W) → List (Option W) → Bool
  | [], [] => true
  | none :: as, none :: bs => fbeq as bs
  | some a :: as, some b :: bs => W.beq a b && fbeq as bs
  | _, _ => false
theorem fbeq_eq : ∀ a b : List (Option W), fbeq a b = true → a = b
  | [], [], _ => rfl
  | [], _ :: _, h => by simp [fbeq] at h
  | none :: _, [], h => by simp [fbeq] at h
  | some _ :: _, [], h => by simp [fbeq] at h
  | none :: as, none :: bs, h => by rw [fbeq_eq as bs (by simpa [fbeq] using h)]
  | none :: as, some _ :: bs, h => by simp [fbeq] at h
  | some _ :: as, none :: bs, h => by simp [fbeq] at h
  | some a :: as, some b :: bs, h => by
    have h' : W.beq a b = true ∧ fbeq as bs = true := by simpa [fbeq] using h
    rw [W.beq_eq a b h'.1, fbeq_eq as bs h'.2]
theorem fbeq_rfl : ∀ a : List (Option W), fbeq a a = true
  | [] => by simp [fbeq]
  | none :: as => by simp [fbeq, fbeq_rfl as]
  | some a :: as => by simp [fbeq, W.beq_rfl a, fbeq_rfl as]
def Cell.beq : Cell → Cell → Bool
  | .dead, .dead => true
  | .lst a, .lst b => W.beqs a b
  | .ins c a, .ins d b => c == d && fbeq a b
  | .dct ks a, .dct js b => decide (ks = js) && W.beqs a b
  | .tab i, .tab j => i == j
  | _, _ => false
theorem Cell.beq_eq {a b : Cell} (h : Cell.beq a b = true) : a = b := by
  cases a with
  | dead => cases b <;> simp [Cell.beq] at h ⊢
  | lst xs =>
    cases b with
    | lst ys => rw [W.beqs_eq xs ys (by simpa [Cell.beq] using h)]
    | _ => simp [Cell.beq] at h
  | ins c xs =>
    cases b with
    | ins d ys =>
      have h' : c = d ∧ fbeq xs ys = true := by simpa [Cell.beq] using h
      rw [h'.1, fbeq_eq xs ys h'.2]
    | _ => simp [Cell.beq] at h
  | dct ks xs =>
    cases b with
    | dct js ys =>
      have h' : ks = js ∧ W.beqs xs ys = true := by simpa [Cell.beq] using h
      rw [h'.1, W.beqs_eq xs ys h'.2]
    | _ => simp [Cell.beq] at h
  | tab i => cases b <;> simp_all [Cell.beq]
theorem Cell.beq_rfl (a : Cell) : Cell.beq a a = true := by
  cases a <;> simp [Cell.beq, W.beqs_rfl, fbeq_rfl]

/-! ### a value speaks of no cell from n on -/
mutual
def W.blw (n : Nat) : W → Bool
  | .ref m => decide (m < n)
  | .tup xs => W.blws n xs
  | .lst xs => W.blws n xs
  | _ => true
def W.blws (n : Nat) : List W → Bool
  | [] => true
  | x :: xs => W.blw n x && W.blws n xs
end
def fblw (n : Nat) : List (Option W) → Bool
  | [] => true
  | none :: xs => fblw n xs
  | some x :: xs => W.blw n x && fblw n xs
def Cell.blw (n : Nat) : Cell → Bool
  | .dead => true
  | .lst xs => W.blws n xs
  | .ins _ fs => fblw n fs
  | .dct _ xs => W.blws n xs
  | .tab _ => true
/-- what stood ahead stands still, or speaks of nothing new -/
def okTr (n : Nat) : Hh → Hh → Bool
  | [], _ => true
  | a :: as, b :: bs => (Cell.beq a b || Cell.blw n b) && okTr n as bs
  | _ :: _, [] => false

/-! ### data -/
mutual
def toD (G : Hh) : W → Option PyData
  | .non => some .none
  | .bl b => some (.bool b)
  | .int i => some (.int i)
  | .str x => some (.str x)
  | .tup xs => (toDs G xs).map PyData.tuple
  | .lst xs => (toDs G xs).map PyData.list
  | .ref n => match G[n]? with
    | some (.lst []) => some (.list [])
    | _ => none
  | .fn _ => none
  | .lam _ => none
def toDs (G : Hh) : List W → Option (List PyData)
  | [] => some []
  | x :: xs => match toD G x, toDs G xs with
    | some d, some ds => some (d :: ds)
    | _, _ => none
end
/-- a value as data; a cell's list at the top too -/
def toDr (G : Hh) (w : W) : Option PyData := match w with
  | .ref n => match G[n]? with
    | some (.lst xs) => (toDs G xs).map PyData.list
    | _ => none
  | w => toD G w
/-- the items of a list or tuple -/
def seqOf (G : Hh) : W → Option (List W)
  | .tup xs => some xs
  | .lst xs => some xs
  | .ref n => match G[n]? with
    | some (.lst xs) => some xs
    | _ => none
  | _ => none
def intsOf : List W → Option (List Int)
  | [] => some []
  | .int i :: r => (intsOf r).map (i :: ·)
  | _ => none
def blsOf : List W → Option (List Bool)
  | [] => some []
  | .bl i :: r => (blsOf r).map (i :: ·)
  | _ => none
def flatW : W → Bool
  | .non => true
  | .bl _ => true
  | .int _ => true
  | .str _ => true
  | _ => false
def eqW : W → W → Bool
  | .non, .non => true
  | .bl a, .bl b => a == b
  | .bl a, .int b => (if a then 1 else 0) == b
  | .int a, .bl b => a == (if b then 1 else 0)
  | .int a, .int b => a == b
  | .str a, .str b => a == b
  | _, _ => false
def inW (x : W) (xs : List W) : Bool := xs.any fun y => eqW y x
def cutW (xs : List W) (lo hi : Option Int) : List W := (xs.drop (HT.sIx xs.length 0 lo)).take (HT.sIx xs.length xs.length hi - HT.sIx xs.length 0 lo)
/- numbers small enough to be shown -/
mutual
def shw (d : PyData) : Bool := match d with
  | .none => true
  | .bool _ => true
  | .int i => decide (i.natAbs < 1000000000000000000000000000000000000000000000000000000000000)
  | .str x => decide (x.length ≤ 100)
  | .list xs => shws xs
  | .tuple xs => shws xs
  | .dict _ => false
def shws (ds : List PyData) : Bool := match ds with
  | [] => true
  | d :: r => shw d && shws r
end
mutual
def nodes (d : PyData) : Nat := match d with
  | .list xs => 1 + nodess xs
  | .tuple xs => 1 + nodess xs
  | _ => 1
def nodess (ds : List PyData) : Nat := match ds with
  | [] => 0
  | d :: r => nodes d + nodess r
end

/-! ### results -/
inductive R (α : Type) where
  | ok (a : α) (G : Hh)
  | ex (c : Nat) (p : Option W) (G : Hh)
  | bad
def R.bind {α β : Type} (r : R α) (k : α → Hh → R β) : R β := match r with
  | .ok a G => k a G
  | .ex c p G => .ex c p G
  | .bad => .bad
theorem R.bind_ok {α β : Type} (a : α) (G : Hh) (k : α → Hh → R β) : R.bind (.ok a G) k = k a G := rfl
theorem R.bind_ex {α β : Type} (c : Nat) (p : Option W) (G : Hh) (k : α → Hh → R β) : R.bind (.ex c p G : R α) k = .ex c p G := rfl
theorem R.bind_bad {α β : Type} (k : α → Hh → R β) : R.bind (.bad : R α) k = .bad := rfl
inductive RS where
  | nx (ρ : Rho) (G : Hh)
  | rt (w : W) (G : Hh)
  | ex (c : Nat) (p : Option W) (ρ : Rho) (G : Hh)
  | bad
/-- an expression's result, then a statement's -/
def R.thn {α : Type} (r : R α) (ρ : Rho) (k : α → Hh → RS) : RS := match r with
  | .ok a G => k a G
  | .ex c p G => .ex c p ρ G
  | .bad => .bad
theorem R.thn_ok {α : Type} (a : α) (G : Hh) (ρ : Rho) (k : α → Hh → RS) : R.thn (.ok a G) ρ k = k a G := rfl
theorem R.thn_ex {α : Type} (c : Nat) (p : Option W) (G : Hh) (ρ : Rho) (k : α → Hh → RS) : R.thn (.ex c p G : R α) ρ k = .ex c p ρ G := rfl
def RS.thn (r : RS) (k : Rho → Hh → RS) : RS := match r with
  | .nx ρ G => k ρ G
  | .rt w G => .rt w G
  | .ex c p ρ G => .ex c p ρ G
  | .bad => .bad
theorem RS.thn_nx (ρ : Rho) (G : Hh) (k : Rho → Hh → RS) : RS.thn (.nx ρ G) k = k ρ G := rfl
theorem RS.thn_rt (w : W) (G : Hh) (k : Rho → Hh → RS) : RS.thn (.rt w G) k = .rt w G := rfl
theorem RS.thn_ex (c : Nat) (p : Option W) (ρ : Rho) (G : Hh) (k : Rho → Hh → RS) : RS.thn (.ex c p ρ G) k = .ex c p ρ G := rfl

/-! ### the language -/
inductive BOp | add | sub | mul | fdiv | mod | pow
inductive COp | eq | ne | lt | le | gt | ge | isIn | notIn | isN | notN
inductive Bi | len | sum | any | all | max2 | min2 | min1 | abs | int | tuple | list | divmod | repr | listD | sorted
inductive Tq | int | bl | tup | str | lst
inductive Tg | nm (i : Nat) | tp (is : List Nat)

mutual
inductive IE
  | non | bl (b : Bool) | int (i : Int) | str (x : Str) | v (i : Nat) | g (k : Nat) | f (k : Nat)
  | op (o : BOp) (a b : IE) | neg (a : IE) | cmp (o : COp) (a b : IE) | chain (o o' : COp) (a b c : IE)
  | andV (a b : IE) | orV (a b : IE) | notV (a : IE) | ife (t : IT) (a b : IE)
  | tup (es : IEs) | lst (mu : Bool) (es : IEs)
  | ix (a i : IE) | sl (a : IE) (lo hi : IO)
  | call (k : Nat) (es : IEs) (ds : List W) | callV (i : Nat) (es : IEs)
  | callK (i : Nat) (es ks : IEs) (pm : List Nat)
  | bi (b : Bi) (es : IEs)
  | lc (own : List Nat) (tg : Tg) (it : II) (t : IT) (e : IE)
  | fld (a : IE) (c j : Nat) | meth (a : IE) (m : Nat) (es : IEs)
  | mk (c : Nat) | isIns (a : IE) (c : Nat) | isT (t : Tq) (a : IE)
  | inG (a : IE) (k : Nat) | ixG (k : Nat) (a : IE)
  | pop (a : IE)
  | dct (ks : List L2.Key) (xs : List W)
  | lam (i t m : Nat)
  | never
inductive IEs
  | nil | cons (e : IE) (es : IEs) | star (e : IE) (es : IEs)
inductive IO
  | no | yes (e : IE)
inductive IT
  | yes | and (a b : IT) | or (a b : IT) | not (a : IT) | val (e : IE) | tru (e : IE)
inductive II
  | seq (e : IE) | r1 (a : IE) | r2 (a b : IE) | enum (e : IE)
end
/-- what an except suite returns -/
inductive SE
  | c (w : W) | fld (d : Nat) | isx (c : Nat) | nt (a : SE) | ife (a b c : SE) | isN (a : SE)

mutual
inductive IS
  | asg (i : Nat) (e : IE)
  | unp (tg : IG) (e : IE)
  | par (i j : Nat) (a b : IE)
  | par3 (i j l : Nat) (a b c : IE)
  | drop (e : IE)
  | append (a e : IE)
  | setL (a i e : IE)
  | setD (a i e : IE)
  | setF (a : IE) (c j : Nat) (e : IE)
  | ret (e : IE) | retN
  | cond (t : IT) (a b : ISs)
  | loop (tg : Tg) (it : II) (b : ISs)
  | wh (t : IT) (b : ISs)
  | pass
  | frz (i : Nat)
  | raise0 (c : Nat) | raise1 (c : Nat) (e : IE)
  | tryx (b : ISs) (hs : List (Nat × SE))
  | never
inductive ISs
  | nil | cons (s : IS) (ss : ISs)
inductive IG
  | nil | nm (i : Nat) (r : IG) | sub (a i : IE) (r : IG)
end

def IG.len : IG → Nat
  | .nil => 0
  | .nm _ r => r.len + 1
  | .sub _ _ r => r.len + 1
/-! ### what operations give -/
def big : Int := 18446744073709551616
def evOp (o : BOp) (x y : W) (G : Hh) : R W := match o, x, y with
  | .add, .int i, .int j => .ok (.int (i + j)) G
  | .add, .tup xs, .tup ys => if xs.length + ys.length ≤ 1000000 then .ok (.tup (xs ++ ys)) G else .bad
  | .add, .lst xs, .lst ys => if xs.length + ys.length ≤ 1000000 then .ok (.lst (xs ++ ys)) G else .bad
  | .add, .str a, .str b => if a.length + b.length ≤ 1000000 then .ok (.str (a ++ b)) G else .bad
  | .sub, .int i, .int j => .ok (.int (i - j)) G
  | .mul, .int i, .int j => if (-18446744073709551616 < i ∧ i < 18446744073709551616) ∨ (-18446744073709551616 < j ∧ j < 18446744073709551616) then .ok (.int (i * j)) G else .bad
  | .fdiv, .int i, .int j => if 0 < j ∧ j < 1073741824 then .ok (.int (i / j)) G else .bad
  | .mod, .int i, .int j => if 0 < j then .ok (.int (i % j)) G else .bad
  | .pow, .int i, .int j => if 0 ≤ j ∧ j ≤ 1000000 ∧ i.natAbs < 18446744073709551616 then .ok (.int (i ^ j.toNat)) G else .bad
  | _, _, _ => .bad
def strP : W → W → Option Bool
  | .str a, .str b => some (decide (a = b))
  | _, _ => none
def evEqD (x y : W) (G : Hh) : Option Bool := match toDr G x, toDr G y with
  | some d, some e => if PySem.SeqAt.shaped d = true ∧ PySem.SeqAt.shaped e = true then some (PyData.eqv d e) else none
  | _, _ => none
def evEq (x y : W) (G : Hh) : Option Bool := match strP x y with
  | some b => some b
  | none => evEqD x y G
def isNon : W → Bool
  | .non => true
  | _ => false
def evCmp (o : COp) (x y : W) (G : Hh) : Option Bool := match o with
  | .eq => evEq x y G
  | .ne => (evEq x y G).map (!·)
  | .lt => match x, y with
    | .int i, .int j => some (decide (i < j))
    | _, _ => none
  | .le => match x, y with
    | .int i, .int j => some (decide (i ≤ j))
    | _, _ => none
  | .gt => match x, y with
    | .int i, .int j => some (decide (j < i))
    | _, _ => none
  | .ge => match x, y with
    | .int i, .int j => some (decide (j ≤ i))
    | _, _ => none
  | .isIn => match seqOf G y with
    | some ys => if flatW x = true ∧ ys.all flatW = true then some (inW x ys) else none
    | none => none
  | .notIn => match seqOf G y with
    | some ys => if flatW x = true ∧ ys.all flatW = true then some (!inW x ys) else none
    | none => none
  | .isN => if isNon y then some (isNon x) else none
  | .notN => if isNon y then some (!isNon x) else none
def ofO {α : Type} (o : Option α) (G : Hh) : R α := match o with
  | some a => .ok a G
  | none => .bad
theorem ofO_some {α : Type} (a : α) (G : Hh) : ofO (some a) G = .ok a G := rfl
def evTru (x : W) (G : Hh) : Option Bool := match x with
  | .non => some false
  | .bl b => some b
  | .int i => some (i != 0)
  | .str y => if y.length ≤ 1000000 then some ((y.length : Int) != 0) else none
  | w => (seqOf G w).map fun xs => !xs.isEmpty
def evIx (x y : W) (G : Hh) : Option W := match y with
  | .int i => (seqOf G x).bind fun xs => L2.atI xs i
  | _ => none
def evSl (x : W) (lo hi : Option Int) (G : Hh) : Option W := match x with
  | .tup xs => some (.tup (cutW xs lo hi))
  | .lst xs => some (.lst (cutW xs lo hi))
  | .ref n => match G[n]? with
    | some (.lst xs) => some (.lst (cutW xs lo hi))
    | _ => none
  | _ => none
/-- the least of some whole numbers -/
def minI : List Int → Option Int
  | [] => none
  | i :: r => some (r.foldl (fun a y => if y < a then y else a) i)
def ev1 (f : W → Option W) : List W → Option W
  | [x] => f x
  | _ => none
def ev2 (f : W → W → Option W) : List W → Option W
  | [x, y] => f x y
  | _ => none
def onI (f : Int → Option W) : W → Option W
  | .int i => f i
  | _ => none
def onL (f : List W → Option W) : W → Option W
  | .lst i => f i
  | _ => none
def onT (f : List W → Option W) : W → Option W
  | .tup i => f i
  | _ => none
def evInt : W → Option W
  | .int i => some (.int i)
  | .bl k => some (.int (if k then 1 else 0))
  | _ => none
/-- a value's type, where it is known -/
inductive Ty | non | bl | int | str | tup | lst
  deriving DecidableEq
def tyW (G : Hh) : W → Option Ty
  | .non => some .non
  | .bl _ => some .bl
  | .int _ => some .int
  | .str _ => some .str
  | .tup _ => some .tup
  | .lst _ => some .lst
  | .ref n => match G[n]? with
    | some (.lst _) => some .lst
    | _ => none
  | .fn _ => none
  | .lam _ => none
/-- isinstance of a built-in type -/
def tqB : Tq → Ty → Bool
  | .int, t => decide (t = .int) || decide (t = .bl)
  | .bl, t => decide (t = .bl)
  | .tup, t => decide (t = .tup)
  | .str, t => decide (t = .str)
  | .lst, t => decide (t = .lst)
def evRepr (G : Hh) (x : W) : Option W := match toDr G x with
  | some d => if shw d = true ∧ nodes d ≤ 1000 ∧ PySem.SeqAt.shaped d = true then some (.str d.shown) else none
  | none => none
/-- keys as values -/
def keyW : L2.Key → W
  | .inl i => .int i
  | .inr x => .str x
def keyOf : W → Option L2.Key
  | .int i => some (.inl i)
  | .str x => some (.inr x)
  | _ => none
def dctOf (x : W) (G : Hh) : Option (List L2.Key × List W) := match x with
  | .ref n => match G[n]? with
    | some (.dct ks xs) => some (ks, xs)
    | _ => none
  | _ => none
def insI (x : Int) : List Int → List Int
  | [] => [x]
  | y :: r => if x ≤ y then x :: y :: r else y :: insI x r
def sortI : List Int → List Int
  | [] => []
  | x :: r => insI x (sortI r)
/-- the items of a list -/
def lOf (G : Hh) : W → Option (List W)
  | .lst xs => some xs
  | .ref n => match G[n]? with
    | some (.lst xs) => some xs
    | _ => none
  | _ => none
def evBi (b : Bi) (vs : List W) (G : Hh) : Option W := match b with
  | .len => ev1 (fun x => (seqOf G x).map fun xs => .int (xs.length : Nat)) vs
  | .sum => ev1 (onL fun xs => (intsOf xs).map fun is => .int is.sum) vs
  | .any => ev1 (onL fun xs => (blsOf xs).map fun is => .bl (is.any id)) vs
  | .all => ev1 (onL fun xs => (blsOf xs).map fun is => .bl (is.all id)) vs
  | .max2 => ev2 (fun x y => onI (fun i => onI (fun j => some (.int (if j > i then j else i))) y) x) vs
  | .min2 => ev2 (fun x y => onI (fun i => onI (fun j => some (.int (if j < i then j else i))) y) x) vs
  | .min1 => ev1 (onT fun xs => ((intsOf xs).bind minI).map .int) vs
  | .abs => ev1 (onI fun i => some (.int (if i < 0 then -i else i))) vs
  | .int => ev1 evInt vs
  | .tuple => ev1 (fun x => (seqOf G x).map fun xs => .tup xs) vs
  | .list => ev1 (fun x => (seqOf G x).map fun xs => .lst xs) vs
  | .divmod => ev2 (fun x y => onI (fun i => onI (fun j => if 0 < j ∧ j < 1073741824 then some (.tup [.int (i / j), .int (i % j)]) else none) y) x) vs
  | .repr => ev1 (evRepr G) vs
  | .listD => ev1 (fun x => (dctOf x G).map fun p => .lst (p.1.map keyW)) vs
  | .sorted => ev1 (fun x => (lOf G x).bind fun xs => (intsOf xs).map fun is => .lst ((sortI is).map .int)) vs

/-! ### slots -/
def getS (ρ : Rho) (i : Nat) : Option W := match ρ[i]? with
  | some (some w) => some w
  | _ => none
def wipeR (ρ : Rho) : List Nat → Rho
  | [] => ρ
  | v :: vs => (wipeR ρ vs).set v none
def setMany (ρ : Rho) : List Nat → List W → Option Rho
  | [], [] => some ρ
  | i :: is, x :: xs => setMany (ρ.set i (some x)) is xs
  | _, _ => none
def bindTg (tg : Tg) (x : W) (ρ : Rho) : Option Rho := match tg with
  | .nm i => some (ρ.set i (some x))
  | .tp is => match x with
    | .tup xs => setMany ρ is xs
    | _ => none

/-- the items of a list that may change -/
def lstOf (x : W) (G : Hh) : Option (List W) := match x with
  | .ref n => match G[n]? with
    | some (.lst xs) => some xs
    | _ => none
  | _ => none
/-- the fields of an instance of the class c -/
def insOf (c : Nat) (x : W) (G : Hh) : Option (List (Option W)) := match x with
  | .ref n => match G[n]? with
    | some (.ins d fs) => if c = d then some fs else none
    | _ => none
  | _ => none
/-! ### loops -/
def lcRun (step : W → Hh → R (Option W)) : List W → Hh → R (List W)
  | [], G => .ok [] G
  | x :: xs, G => (step x G).bind fun o G1 => (lcRun step xs G1).bind fun ys G2 => .ok (o.toList ++ ys) G2
/-- no error leaves a comprehension -/
def R.noex {α : Type} (r : R α) : R α := match r with
  | .ok a G => .ok a G
  | _ => .bad
def loopRun (step : W → Rho → Hh → RS) : List W → Rho → Hh → RS
  | [], ρ, G => .nx ρ G
  | x :: xs, ρ, G => (step x ρ G).thn fun ρ1 G1 => loopRun step xs ρ1 G1
def whRun (t : Rho → Hh → R Bool) (b : Rho → Hh → RS) : Nat → Rho → Hh → RS
  | 0, _, _ => .bad
  | n + 1, ρ, G => (t ρ G).thn ρ fun c G1 => if c then (b ρ G1).thn fun ρ2 G2 => whRun t b n ρ2 G2 else .nx ρ G1
def rangeW (lo : Int) (n : Nat) : List W := (List.range n).map fun i => .int (lo + (i : Nat))
def enumW : Nat → List W → List W
  | _, [] => []
  | i, x :: xs => .tup [.int (i : Nat), x] :: enumW (i + 1) xs

/-- the items at some places -/
def pick {α : Type} (pm : List Nat) (ys : List α) : List α := pm.filterMap fun j => ys[j]?
/-- the classes: their fields' names, the methods' numbers; the error classes: their field, what stands above them -/
structure Lib where
  gs : List W
  ms : List (Nat × Nat)
  inits : List (Nat × Nat)
  dicts : List (List (Str × Int))
  subs : List (List Nat)

/-! ### running -/
section
variable (L : Lib) (call : Nat → List W → Hh → R W)
mutual
def evE (e : IE) (ρ : Rho) (G : Hh) : R W := match e with
  | .non => .ok .non G
  | .bl b => .ok (.bl b) G
  | .int i => .ok (.int i) G
  | .str x => .ok (.str x) G
  | .v i => ofO (getS ρ i) G
  | .g k => ofO L.gs[k]? G
  | .f k => .ok (.fn k) G
  | .op o a b => (evE a ρ G).bind fun x G1 => (evE b ρ G1).bind fun y G2 => evOp o x y G2
  | .neg a => (evE a ρ G).bind fun x G1 => match x with
    | .int i => .ok (.int (-i)) G1
    | _ => .bad
  | .cmp o a b => (evE a ρ G).bind fun x G1 => (evE b ρ G1).bind fun y G2 => ofO ((evCmp o x y G2).map .bl) G2
  | .chain o o' a b c => (evE a ρ G).bind fun x G1 => (evE b ρ G1).bind fun y G2 => (ofO (evCmp o x y G2) G2).bind fun k G3 =>
      if k then (evE c ρ G3).bind fun z G4 => ofO ((evCmp o' y z G4).map .bl) G4 else .ok (.bl false) G3
  | .andV a b => (evE a ρ G).bind fun x G1 => match x with
    | .bl c => if c then evE b ρ G1 else .ok (.bl false) G1
    | _ => .bad
  | .orV a b => (evE a ρ G).bind fun x G1 => match x with
    | .bl c => if c then .ok (.bl true) G1 else evE b ρ G1
    | _ => .bad
  | .notV a => (evE a ρ G).bind fun x G1 => match x with
    | .bl c => .ok (.bl (!c)) G1
    | _ => .bad
  | .ife t a b => (evT t ρ G).bind fun c G1 => if c then evE a ρ G1 else evE b ρ G1
  | .tup es => (evEs es ρ G).bind fun xs G1 => if xs.length ≤ 1000000 then .ok (.tup xs) G1 else .bad
  | .lst mu es => (evEs es ρ G).bind fun xs G1 => if xs.length ≤ 1000000 then (if mu then .ok (.ref G1.length) (G1 ++ [.lst xs]) else .ok (.lst xs) G1) else .bad
  | .ix a i => (evE a ρ G).bind fun x G1 => (evE i ρ G1).bind fun y G2 => ofO (evIx x y G2) G2
  | .sl a lo hi => (evE a ρ G).bind fun x G1 => (evO lo ρ G1).bind fun l G2 => (evO hi ρ G2).bind fun h G3 => ofO (evSl x l h G3) G3
  | .call k es ds => (evEs es ρ G).bind fun xs G1 => call k (xs ++ ds) G1
  | .callK i es ks pm => (evEs es ρ G).bind fun xs G1 => (evEs ks ρ G1).bind fun ys G2 => call i (xs ++ pick pm ys) G2
  | .callV i es => match getS ρ i with
    | some (.fn k) => (evEs es ρ G).noex.bind fun xs G1 => call k xs G1
    | some (.lam k) => (evEs es ρ G).noex.bind fun xs G1 => call k xs G1
    | _ => .bad
  | .bi b es => (evEs es ρ G).bind fun xs G1 => ofO (evBi b xs G1) G1
  | .lc own tg it t e => (evI it ρ G).bind fun xs G1 => if xs.length ≤ 1000000 then
      (lcRun (fun x G2 => match bindTg tg x (wipeR ρ own) with
        | some ρ2 => (evT t ρ2 G2).noex.bind fun c G3 => if c then (evE e ρ2 G3).noex.bind fun y G4 => .ok (some y) G4 else .ok none G3
        | none => .bad) xs G1).bind fun ys G5 => .ok (.lst ys) G5
      else .bad
  | .fld a c j => (evE a ρ G).bind fun x G1 => ofO ((insOf c x G1).bind fun fs => getS fs j) G1
  | .meth a m es => (evE a ρ G).bind fun x G1 => match L.ms[m]? with
    | some ck => if (insOf ck.1 x G1).isSome then (evEs es ρ G1).bind fun xs G2 => call ck.2 (x :: xs) G2 else .bad
    | none => .bad
  | .mk c => match L.inits[c]? with
    | some (k, n) => (call k [.ref G.length] (G ++ [.ins c (List.replicate n none)])).bind fun y G1 => match y with
      | .non => .ok (.ref G.length) G1
      | _ => .bad
    | none => .bad
  | .isIns a c => (evE a ρ G).bind fun x G1 => match x with
    | .ref n => match G1[n]? with
      | some (.ins d _) => if c = d then .ok (.bl true) G1 else .bad
      | some (.lst _) => .ok (.bl false) G1
      | _ => .bad
    | .fn _ => .bad
    | .lam _ => .bad
    | _ => .ok (.bl false) G1
  | .isT t a => (evE a ρ G).bind fun x G1 => ofO ((tyW G1 x).map fun u => .bl (tqB t u)) G1
  | .inG a k => (evE a ρ G).bind fun x G1 => match x, L.dicts[k]? with
    | .str y, some kv => .ok (.bl (kv.any fun p => decide (p.1 = y))) G1
    | _, _ => .bad
  | .ixG k a => (evE a ρ G).bind fun x G1 => match x, L.dicts[k]? with
    | .str y, some kv => ofO ((kv.find? fun p => decide (p.1 = y)).map fun p => .int p.2) G1
    | _, _ => .bad
  | .pop a => (evE a ρ G).bind fun x G1 => match x, lstOf x G1 with
    | .ref n, some xs => match xs.getLast? with
      | some y => .ok y (G1.set n (.lst xs.dropLast))
      | none => .bad
    | _, _ => .bad
  | .dct ks xs => .ok (.ref G.length) (G ++ [.dct ks xs])
  | .lam i t m => match G[t]? with
    | some (.tab m') => if m' = m then .ok (.lam i) G else .bad
    | _ => .bad
  | .never => .bad
def evEs (es : IEs) (ρ : Rho) (G : Hh) : R (List W) := match es with
  | .nil => .ok [] G
  | .cons e es => (evE e ρ G).bind fun x G1 => (evEs es ρ G1).bind fun xs G2 => .ok (x :: xs) G2
  | .star e es => (evE e ρ G).bind fun x G1 => match seqOf G1 x with
    | some xs => (evEs es ρ G1).bind fun ys G2 => .ok (xs ++ ys) G2
    | none => .bad
def evO (o : IO) (ρ : Rho) (G : Hh) : R (Option Int) := match o with
  | .no => .ok none G
  | .yes e => (evE e ρ G).bind fun x G1 => match x with
    | .int i => .ok (some i) G1
    | _ => .bad
def evT (t : IT) (ρ : Rho) (G : Hh) : R Bool := match t with
  | .yes => .ok true G
  | .and a b => (evT a ρ G).bind fun c G1 => if c then evT b ρ G1 else .ok false G1
  | .or a b => (evT a ρ G).bind fun c G1 => if c then .ok true G1 else evT b ρ G1
  | .not a => (evT a ρ G).bind fun c G1 => .ok (!c) G1
  | .val e => (evE e ρ G).bind fun x G1 => match x with
    | .bl c => .ok c G1
    | _ => .bad
  | .tru e => (evE e ρ G).bind fun x G1 => ofO (evTru x G1) G1
def evI (it : II) (ρ : Rho) (G : Hh) : R (List W) := match it with
  | .seq e => (evE e ρ G).bind fun x G1 => match x with
    | .tup xs => .ok xs G1
    | .lst xs => .ok xs G1
    | _ => .bad
  | .r1 a => (evE a ρ G).bind fun x G1 => match x with
    | .int j => if j ≤ 1000000 ∧ -1000000 ≤ j then .ok (rangeW 0 j.toNat) G1 else .bad
    | _ => .bad
  | .r2 a b => (evE a ρ G).bind fun x G1 => (evE b ρ G1).bind fun y G2 => match x, y with
    | .int i, .int j => if (-1000000 ≤ i ∧ i ≤ 1000000) ∧ -1000000 ≤ j ∧ j ≤ 1000000 then .ok (rangeW i (j - i).toNat) G2 else .bad
    | _, _ => .bad
  | .enum e => (evE e ρ G).bind fun x G1 => match x with
    | .lst xs => .ok (enumW 0 xs) G1
    | .tup xs => .ok (enumW 0 xs) G1
    | _ => .bad
end
def evSE (L : Lib) (c : Nat) (p : Option W) (e : SE) : Option W := match e with
  | .c w => some w
  | .fld d => if c = d then p else none
  | .isx d => match L.subs[c]? with
    | some ds => some (.bl (ds.contains d))
    | none => none
  | .nt a => match evSE L c p a with
    | some (.bl b) => some (.bl (!b))
    | _ => none
  | .ife t a b => match evSE L c p t with
    | some (.bl true) => evSE L c p a
    | some (.bl false) => evSE L c p b
    | _ => none
  | .isN a => (evSE L c p a).map fun w => .bl (isNon w)
/-- the handlers, in order -/
def evHs (L : Lib) (c : Nat) (p : Option W) (ρ : Rho) (G : Hh) : List (Nat × SE) → RS
  | [] => .ex c p ρ G
  | (d, e) :: r => match L.subs[c]? with
    | some ds => if ds.contains d then (match evSE L c p e with
      | some w => .rt w G
      | none => .bad) else evHs L c p ρ G r
    | none => .bad
def evSet (x y z : W) (ρ : Rho) (G : Hh) : RS := match x, lstOf x G, y with
    | .ref n, some xs, .int k => match L2.ixN xs.length k with
      | some j => .nx ρ (G.set n (.lst (xs.set j z)))
      | none => .bad
    | _, _, _ => .bad
/-- a key's place filled, or a new one -/
def putX (k : L2.Key) (v : W) : List L2.Key → List W → List W
  | j :: ks, x :: xs => (if j = k then v else x) :: putX k v ks xs
  | _, _ => []
def putKs (k : L2.Key) (ks : List L2.Key) : List L2.Key := if (ks.any fun j => decide (j = k)) = true then ks else ks ++ [k]
def putXs (k : L2.Key) (v : W) (ks : List L2.Key) (xs : List W) : List W := if (ks.any fun j => decide (j = k)) = true then putX k v ks xs else xs ++ [v]
def evSetD (x y z : W) (ρ : Rho) (G : Hh) : RS := match x, dctOf x G, keyOf y with
    | .ref n, some (ks, xs), some k => if ks.length < 1000000 then .nx ρ (G.set n (.dct (putKs k ks) (putXs k z ks xs))) else .bad
    | _, _, _ => .bad
def evApp (x y : W) (ρ : Rho) (G : Hh) : RS := match x, lstOf x G with
    | .ref n, some xs => if xs.length < 1000000 then .nx ρ (G.set n (.lst (xs ++ [y]))) else .bad
    | _, _ => .bad
def evStF (c j : Nat) (x z : W) (ρ : Rho) (G : Hh) : RS := match x, insOf c x G with
    | .ref n, some fs => if j < fs.length then .nx ρ (G.set n (.ins c (fs.set j (some z)))) else .bad
    | _, _ => .bad
/-- how many turns a while may take -/
def wfuel : Nat := 1000000000000
mutual
def exS (s : IS) (ρ : Rho) (G : Hh) : RS := match s with
  | .asg i e => (evE L call e ρ G).thn ρ fun x G1 => .nx (ρ.set i (some x)) G1
  | .unp tg e => (evE L call e ρ G).thn ρ fun x G1 => match x with
    | .tup xs => if xs.length = tg.len then evG tg xs ρ G1 else .bad
    | _ => .bad
  | .par i j a b => (evE L call a ρ G).thn ρ fun x G1 => (evE L call b ρ G1).thn ρ fun y G2 => .nx ((ρ.set i (some x)).set j (some y)) G2
  | .par3 i j l a b c => (evE L call a ρ G).thn ρ fun x G1 => (evE L call b ρ G1).thn ρ fun y G2 => (evE L call c ρ G2).thn ρ fun z G3 => .nx (((ρ.set i (some x)).set j (some y)).set l (some z)) G3
  | .drop e => (evE L call e ρ G).thn ρ fun _ G1 => .nx ρ G1
  | .append a e => (evE L call a ρ G).thn ρ fun x G1 => if (lstOf x G1).isSome then (evE L call e ρ G1).thn ρ fun y G2 => evApp x y ρ G2 else .bad
  | .setL a i e => (evE L call e ρ G).thn ρ fun z G1 => (evE L call a ρ G1).thn ρ fun x G2 => (evE L call i ρ G2).thn ρ fun y G3 => evSet x y z ρ G3
  | .setD a i e => (evE L call e ρ G).thn ρ fun z G1 => (evE L call a ρ G1).thn ρ fun x G2 => (evE L call i ρ G2).thn ρ fun y G3 => evSetD x y z ρ G3
  | .setF a c j e => (evE L call e ρ G).thn ρ fun z G1 => (evE L call a ρ G1).thn ρ fun x G2 => evStF c j x z ρ G2
  | .ret e => (evE L call e ρ G).thn ρ fun x G1 => .rt x G1
  | .retN => .rt .non G
  | .cond t a b => (evT L call t ρ G).thn ρ fun c G1 => if c then exSs a ρ G1 else exSs b ρ G1
  | .loop tg it b => (evI L call it ρ G).thn ρ fun xs G1 => loopRun (fun x ρ2 G2 => match bindTg tg x ρ2 with
    | some ρ3 => exSs b ρ3 G2
    | none => .bad) xs ρ G1
  | .wh t b => whRun (fun ρ1 G1 => evT L call t ρ1 G1) (fun ρ1 G1 => exSs b ρ1 G1) wfuel ρ G
  | .pass => .nx ρ G
  | .frz i => match getS ρ i with
    | some (.ref n) => match lstOf (.ref n) G with
      | some xs => .nx (ρ.set i (some (.lst xs))) (G.set n .dead)
      | _ => .bad
    | _ => .bad
  | .raise0 c => .ex c none ρ G
  | .raise1 c e => (evE L call e ρ G).thn ρ fun x G1 => .ex c (some x) ρ G1
  | .tryx b hs => match exSs b ρ G with
    | .ex c p ρ1 G1 => evHs L c p ρ1 G1 hs
    | r => r
  | .never => .bad
def exSs (ss : ISs) (ρ : Rho) (G : Hh) : RS := match ss with
  | .nil => .nx ρ G
  | .cons s ss => (exS s ρ G).thn fun ρ1 G1 => exSs ss ρ1 G1
def evG (tg : IG) (xs : List W) (ρ : Rho) (G : Hh) : RS := match tg, xs with
  | .nil, [] => .nx ρ G
  | .nm i r, x :: xs => evG r xs (ρ.set i (some x)) G
  | .sub a i r, z :: xs => (evE L call a ρ G).thn ρ fun x G1 => (evE L call i ρ G1).thn ρ fun y G2 => (evSet x y z ρ G2).thn fun ρ2 G3 => evG r xs ρ2 G3
  | _, _ => .bad
end
end
structure Fn where
  ps : Nat
  n : Nat
  keep : Bool
  body : ISs
/-- the end of a call -/
def fin (keep : Bool) (n : Nat) (G0 : Hh) (w : W) (G : Hh) : R W :=
  if keep then .ok w G else if okTr n G0 G && W.blw n w then .ok w (G.take n) else .bad
def finX (keep : Bool) (n : Nat) (G0 : Hh) (c : Nat) (p : Option W) (G : Hh) : R W :=
  if keep then .ex c p G else if okTr n G0 G && (match p with | some w => W.blw n w | none => true) then .ex c p (G.take n) else .bad
def run (L : Lib) (fs : List Fn) : Nat → Nat → List W → Hh → R W
  | 0, _, _, _ => .bad
  | k + 1, i, vs, G => match fs[i]? with
    | none => .bad
    | some F => if vs.length = F.ps then (match exSs L (run L fs k) F.body (vs.map some ++ List.replicate (F.n - F.ps) none) G with
      | .nx _ G' => fin F.keep G.length G .non G'
      | .rt w G' => fin F.keep G.length G w G'
      | .ex c p _ G' => finX F.keep G.length G c p G'
      | .bad => .bad) else .bad
end PI
end

section
set_option autoImplicit false
/-! PI1: how the values and cells of PI0 lie in the abstract heap. -/
namespace PI
open PySem L2

/-- what is written of a law's text: names, numbers -/
structure Dat where
  L : Lib
  fs : List Fn
  gn : List Str
  pn : List (List Str)
  dfs : List (List (List W))
  gv : List Str
  fl : List (List Str)
  cn : List Str
  xn : List Str
  xf : List Str
  mn : List Str
  dn : List Str
  bs : List Str
  md : List (Nat × Nat × Str)
  nn : List (List Str)
  lms : List Nat := []
  mks : List Nat := []
/-- the number is a lambda's -/
def lamB (D : Dat) (i : Nat) : Bool := D.lms.any fun j => j == i
/-- a def that may be handed on -/
def plainFB (D : Dat) (i : Nat) : Bool := (D.fs[i]?).isSome && !lamB D i && (match D.gn[i]? with
  | some x => !decide (x = "")
  | none => false) && match D.dfs[i]? with
  | some dfs => dfs.any fun x => x.isEmpty
  | none => false
/-- .. and the addresses that the top gave -/
structure Cn where
  K : PySem.W.Frag
  D : Dat
  fa : Nat → Addr
  fd : Nat → FuncData
  ca : Nat → Addr
  xa : Nat → Addr
  lk : Nat → Arguments → Expr → Scope → Prop
  tp : Nat → Addr
  tq : Nat → Str
def Cn.fl (C : Cn) (c : Nat) : List Str := (C.D.fl[c]?).getD []
def Cn.xf (C : Cn) (c : Nat) : Str := (C.D.xf[c]?).getD ""
def Cn.pn (C : Cn) (c : Nat) : List Str := (C.D.pn[c]?).getD []

structure Wit where
  α : Nat → Addr
  S : Addr → Prop

section
variable (C : Cn)
/-- a list that nothing changes -/
def SqLs (Z : Wit) (H : Hp) (a : Addr) (vs : List V) : Prop := (Rd H a (.lst vs) ∧ ¬ Z.S a) ∨ ∀ H' : Hp, SqL C.K H' a vs
/-- a lambda, made with the code object c -/
def LamO (q : Str) (ps : Arguments) (body : Expr) (sc : Scope) (f c : Addr) : HO := .ext fun h => ∃ pm ctv : Value, h.get? f = some (PySem.W.kla_obj "<lambda>" q ps body sc [] pm c ctv)
mutual
inductive Rep (Z : Wit) (n : Nat) (H : Hp) : W → V → Prop
  | non : Rep Z n H .non .non
  | bl (b : Bool) : Rep Z n H (.bl b) (.bl b)
  | int (i : Int) : Rep Z n H (.int i) (.int i)
  | str (x : Str) : Rep Z n H (.str x) (.str x)
  | tup {a : Addr} {vs : List V} {xs : List W} : SqT C.K H a vs → RepL Z n H xs vs → Rep Z n H (.tup xs) (.ref a)
  | lst {a : Addr} {vs : List V} {xs : List W} : SqLs C Z H a vs → RepL Z n H xs vs → Rep Z n H (.lst xs) (.ref a)
  | ref {m : Nat} : m < n → Rep Z n H (.ref m) (.ref (Z.α m))
  | fn (i : Nat) : plainFB C.D i = true → Rep Z n H (.fn i) (.ref (C.fa i))
  | lam {i : Nat} {f c : Addr} {q : Str} {ps : Arguments} {body : Expr} {sc : Scope} : (lamB C.D i = true ∧ C.lk i ps body sc) → H f = some (LamO q ps body sc f c) → H c = some (LamX.CodeO c q) → Rep Z n H (.lam i) (.ref f)
inductive RepL (Z : Wit) (n : Nat) (H : Hp) : List W → List V → Prop
  | nil : RepL Z n H [] []
  | cons {x : W} {v : V} {xs : List W} {vs : List V} : Rep Z n H x v → RepL Z n H xs vs → RepL Z n H (x :: xs) (v :: vs)
end
/-- the fields of an instance -/
structure FldRep (Z : Wit) (n : Nat) (H : Hp) (names : List Str) (fs : List (Option W)) (fv : List (Str × V)) : Prop where
  len : fs.length = names.length
  nd : names.Nodup
  out : ∀ f, f ∉ names → fv.lookup f = none
  no : ∀ (j : Nat) (f : Str), names[j]? = some f → fs[j]? = some none → fv.lookup f = none
  yes : ∀ (j : Nat) (f : Str) (w : W), names[j]? = some f → fs[j]? = some (some w) → ∃ v, fv.lookup f = some v ∧ Rep C Z n H w v
  few : fv.length ≤ (fs.filter (·.isSome)).length
def CellRep (Z : Wit) (n : Nat) (H : Hp) (a : Addr) : Cell → Prop
  | .dead => True
  | .lst xs => ∃ vs, H a = some (.lst vs) ∧ RepL C Z n H xs vs ∧ Z.S a
  | .ins c fs => ∃ dx fv, H a = some (.ins (C.ca c) dx fv) ∧ FldRep C Z n H (C.fl c) fs fv ∧ Z.S a
  | .dct ks xs => ∃ kvs : List (Key × V), H a = some (.dK kvs) ∧ kvs.map (·.1) = ks ∧ RepL C Z n H xs (kvs.map (·.2)) ∧ Z.S a
  | .tab i => a = C.tp i ∧ LamX.TabS H a (C.tq i) ∧ Z.S a
/-- what a live cell's object is -/
def LiveO : HO → Prop
  | .lst _ => True
  | .ins _ _ _ => True
  | .dK _ => True
  | .tbl _ => True
  | _ => False
def isLive (Z : Wit) (G : Hh) (b : Addr) : Prop := ∃ n c, G[n]? = some c ∧ c ≠ .dead ∧ Z.α n = b
structure HRep (Z : Wit) (G : Hh) (H : Hp) : Prop where
  cells : ∀ n c, G[n]? = some c → CellRep C Z G.length H (Z.α n) c
  inj : ∀ m n c d, G[m]? = some c → G[n]? = some d → c ≠ .dead → d ≠ .dead → Z.α m = Z.α n → m = n
  sd : ∀ b, Z.S b → H b ≠ none
structure Ext (Z : Wit) (G : Hh) (H : Hp) (Z' : Wit) (G' : Hh) (H' : Hp) : Prop where
  len : G.length ≤ G'.length
  al : ∀ n, n < G.length → Z'.α n = Z.α n
  fr : ∀ b o, H b = some o → ¬ isLive Z G b → H' b = some o
  s1 : ∀ b, Z.S b → Z'.S b
  s2 : ∀ b, Z'.S b → Z.S b ∨ H b = none
  nl : ∀ b, isLive Z' G' b → isLive Z G b ∨ H b = none
  dm : ∀ b, H' b = none → H b = none
  hr : HRep C Z' G' H'
end
section
variable {C : Cn} {Z Z' Z1 Z2 : Wit} {G G' G1 G2 : Hh} {H H' H1 H2 : Hp} {n m : Nat}
theorem CellRep.liveO {a : Addr} {c : Cell} (q : CellRep C Z n H a c) (nd : c ≠ .dead) : (∃ o, H a = some o ∧ LiveO o) ∧ Z.S a := by
  cases c with
  | dead => exact absurd rfl nd
  | lst xs => obtain ⟨_, q, _, s⟩ := q; exact ⟨⟨_, q, trivial⟩, s⟩
  | ins c fs => obtain ⟨_, _, q, _, s⟩ := q; exact ⟨⟨_, q, trivial⟩, s⟩
  | dct ks xs => obtain ⟨_, q, _, _, s⟩ := q; exact ⟨⟨_, q, trivial⟩, s⟩
  | tab i => obtain ⟨_, ⟨_, q, _⟩, s⟩ := q; exact ⟨⟨_, q, trivial⟩, s⟩
theorem HRep.live_obj (h : HRep C Z G H) {b : Addr} (l : isLive Z G b) : ∃ o, H b = some o ∧ LiveO o := by
  obtain ⟨n, c, e, nd, rfl⟩ := l
  exact ((h.cells n c e).liveO nd).1
theorem HRep.liveS (h : HRep C Z G H) {b : Addr} (l : isLive Z G b) : Z.S b := by
  obtain ⟨n, c, e, nd, rfl⟩ := l
  exact ((h.cells n c e).liveO nd).2
theorem HRep.live_tup (h : HRep C Z G H) {b : Addr} (l : isLive Z G b) (xs : List V) : H b ≠ some (.tup xs) := by
  obtain ⟨o, e, lo⟩ := h.live_obj l
  intro z
  rw [e] at z
  cases z
  exact lo
theorem HRep.live_frz (h : HRep C Z G H) {b : Addr} (l : isLive Z G b) (o : Obj) (u : HO) : H b ≠ some (.frz o u) := by
  obtain ⟨o, e, lo⟩ := h.live_obj l
  intro z
  rw [e] at z
  cases z
  exact lo
theorem HRep.live_ext (h : HRep C Z G H) {b : Addr} (l : isLive Z G b) (φ : Heap → Prop) : H b ≠ some (.ext φ) := by
  obtain ⟨o, e, lo⟩ := h.live_obj l
  intro z
  rw [e] at z
  cases z
  exact lo
theorem Ext.refl (h : HRep C Z G H) : Ext C Z G H Z G H :=
  ⟨Nat.le_refl _, fun _ _ => rfl, fun _ _ e _ => e, fun _ s => s, fun _ s => .inl s, fun _ l => .inl l, fun _ e => e, h⟩
theorem Ext.trans (a : Ext C Z G H Z1 G1 H1) (b : Ext C Z1 G1 H1 Z2 G2 H2) : Ext C Z G H Z2 G2 H2 where
  len := Nat.le_trans a.len b.len
  al := fun n h => (b.al n (Nat.lt_of_lt_of_le h a.len)).trans (a.al n h)
  fr := fun x o e nl => b.fr x o (a.fr x o e nl) fun l => by
    rcases a.nl x l with z | z
    · exact nl z
    · rw [e] at z; cases z
  s1 := fun x s => b.s1 x (a.s1 x s)
  s2 := fun x s => by
    rcases b.s2 x s with z | z
    · exact a.s2 x z
    · exact .inr (a.dm x z)
  nl := fun x l => by
    rcases b.nl x l with z | z
    · exact a.nl x z
    · exact .inr (a.dm x z)
  dm := fun x e => a.dm x (b.dm x e)
  hr := b.hr
theorem SqLs.sq {a : Addr} {vs : List V} (h : SqLs C Z H a vs) : SqL C.K H a vs := by
  rcases h with ⟨h, _⟩ | h
  · exact .inl h
  · exact h H
theorem Ext.rd (x : Ext C Z G H Z' G' H') (h : HRep C Z G H) {a : Addr} {u : HO} (r : Rd H a u) (nl : ¬ isLive Z G a) : Rd H' a u := by
  rcases r with r | ⟨o, r⟩
  · exact .inl (x.fr a _ r nl)
  · exact .inr ⟨o, x.fr a _ r nl⟩
theorem Ext.sqls (x : Ext C Z G H Z' G' H') (h : HRep C Z G H) {a : Addr} {vs : List V} (r : SqLs C Z H a vs) : SqLs C Z' H' a vs := by
  rcases r with ⟨r, ns⟩ | r
  · refine .inl ⟨x.rd h r fun l => ns (h.liveS l), fun s => ?_⟩
    rcases x.s2 a s with z | z
    · exact ns z
    · rcases r with r | ⟨o, r⟩ <;> (rw [z] at r; cases r)
  · exact .inr r
theorem Ext.sqt (x : Ext C Z G H Z' G' H') (h : HRep C Z G H) {a : Addr} {vs : List V} (r : SqT C.K H a vs) : SqT C.K H' a vs := by
  rcases r with (r | ⟨o, r⟩) | r
  · exact .inl (.inl (x.fr a _ r fun l => h.live_tup l vs r))
  · exact .inl (.inr ⟨o, x.fr a _ r fun l => h.live_frz l o _ r⟩)
  · exact .inr r
theorem Ext.exo (x : Ext C Z G H Z' G' H') (h : HRep C Z G H) {a : Addr} {φ : Heap → Prop} (r : H a = some (.ext φ)) : H' a = some (.ext φ) :=
  x.fr a _ r fun l => h.live_ext l φ r
mutual
theorem Rep.ext (x : Ext C Z G H Z' G' H') (h : HRep C Z G H) : ∀ {w : W} {v : V}, Rep C Z G.length H w v → Rep C Z' G'.length H' w v
  | _, _, .non => .non
  | _, _, .bl b => .bl b
  | _, _, .int i => .int i
  | _, _, .str y => .str y
  | _, _, .tup s r => .tup (x.sqt h s) (RepL.ext x h r)
  | _, _, .lst s r => .lst (x.sqls h s) (RepL.ext x h r)
  | _, _, .ref hm => by
    rw [← x.al _ hm]
    exact .ref (Nat.lt_of_lt_of_le hm x.len)
  | _, _, .fn i p => .fn i p
  | _, _, .lam k a b => .lam k (x.exo h a) (x.exo h b)
theorem RepL.ext (x : Ext C Z G H Z' G' H') (h : HRep C Z G H) : ∀ {ws : List W} {vs : List V}, RepL C Z G.length H ws vs → RepL C Z' G'.length H' ws vs
  | _, _, .nil => .nil
  | _, _, .cons a b => .cons (Rep.ext x h a) (RepL.ext x h b)
end
theorem RepL.length : ∀ {ws : List W} {vs : List V}, RepL C Z n H ws vs → ws.length = vs.length
  | _, _, .nil => rfl
  | _, _, .cons _ t => congrArg (· + 1) (RepL.length t)
theorem RepL.get : ∀ {ws : List W} {vs : List V} {i : Nat} {w : W}, RepL C Z n H ws vs → ws[i]? = some w → ∃ v, vs[i]? = some v ∧ Rep C Z n H w v
  | _, _, _, _, .nil, e => by simp at e
  | _, _, 0, _, .cons a _, e => by simp at e; subst e; exact ⟨_, rfl, a⟩
  | _, _, i + 1, w, .cons _ t, e => by
    obtain ⟨v, h1, h2⟩ := RepL.get (i := i) (w := w) t (by simpa using e)
    exact ⟨v, by simpa using h1, h2⟩
theorem RepL.append : ∀ {ws us : List W} {vs ys : List V}, RepL C Z n H ws vs → RepL C Z n H us ys → RepL C Z n H (ws ++ us) (vs ++ ys)
  | _, _, _, _, .nil, s => s
  | _, _, _, _, .cons a t, s => .cons a (RepL.append t s)
theorem RepL.take : ∀ {ws : List W} {vs : List V} (k : Nat), RepL C Z n H ws vs → RepL C Z n H (ws.take k) (vs.take k)
  | _, _, 0, _ => .nil
  | _, _, _ + 1, .nil => .nil
  | _, _, k + 1, .cons a t => .cons a (RepL.take k t)
theorem RepL.drop : ∀ {ws : List W} {vs : List V} (k : Nat), RepL C Z n H ws vs → RepL C Z n H (ws.drop k) (vs.drop k)
  | _, _, 0, r => r
  | _, _, _ + 1, .nil => .nil
  | _, _, k + 1, .cons _ t => RepL.drop k t
theorem RepL.set {x : W} {v : V} (r : Rep C Z n H x v) : ∀ {ws : List W} {vs : List V} (i : Nat), RepL C Z n H ws vs → RepL C Z n H (ws.set i x) (vs.set i v)
  | _, _, _, .nil => .nil
  | _, _, 0, .cons _ t => .cons r t
  | _, _, i + 1, .cons q t => .cons q (RepL.set r i t)
theorem RepL.dropLast {ws : List W} {vs : List V} (r : RepL C Z n H ws vs) : RepL C Z n H ws.dropLast vs.dropLast := by
  rw [List.dropLast_eq_take, List.dropLast_eq_take, r.length]
  exact r.take _
mutual
/-- more cells, other cells: what a value speaks of stays -/
theorem Rep.more : ∀ {w : W} {v : V}, Rep C Z n H w v → n ≤ m → Rep C Z m H w v
  | _, _, .non, _ => .non
  | _, _, .bl b, _ => .bl b
  | _, _, .int i, _ => .int i
  | _, _, .str y, _ => .str y
  | _, _, .tup s r, h => .tup s (RepL.more r h)
  | _, _, .lst s r, h => .lst s (RepL.more r h)
  | _, _, .ref hm, h => .ref (Nat.lt_of_lt_of_le hm h)
  | _, _, .fn i p, _ => .fn i p
  | _, _, .lam k a b, _ => .lam k a b
theorem RepL.more : ∀ {ws : List W} {vs : List V}, RepL C Z n H ws vs → n ≤ m → RepL C Z m H ws vs
  | _, _, .nil, _ => .nil
  | _, _, .cons a b, h => .cons (Rep.more a h) (RepL.more b h)
end
mutual
theorem Rep.less : ∀ {w : W} {v : V}, Rep C Z n H w v → W.blw m w = true → Rep C Z m H w v
  | _, _, .non, _ => .non
  | _, _, .bl b, _ => .bl b
  | _, _, .int i, _ => .int i
  | _, _, .str y, _ => .str y
  | _, _, .tup s r, h => .tup s (RepL.less r (by simpa [W.blw] using h))
  | _, _, .lst s r, h => .lst s (RepL.less r (by simpa [W.blw] using h))
  | _, _, .ref hm, h => .ref (by simpa [W.blw] using h)
  | _, _, .fn i p, _ => .fn i p
  | _, _, .lam k a b, _ => .lam k a b
theorem RepL.less : ∀ {ws : List W} {vs : List V}, RepL C Z n H ws vs → W.blws m ws = true → RepL C Z m H ws vs
  | _, _, .nil, _ => .nil
  | _, _, .cons a b, h => by
    rw [W.blws, Bool.and_eq_true] at h
    exact .cons (Rep.less a h.1) (RepL.less b h.2)
end
theorem FldRep.map {Z' : Wit} {n' : Nat} {H' : Hp} {names : List Str} {fs : List (Option W)} {fv : List (Str × V)} (r : FldRep C Z n H names fs fv)
    (f : ∀ w v, some w ∈ fs → Rep C Z n H w v → Rep C Z' n' H' w v) : FldRep C Z' n' H' names fs fv :=
  ⟨r.len, r.nd, r.out, r.no, fun j g w h1 h2 => by
    obtain ⟨v, e, q⟩ := r.yes j g w h1 h2
    exact ⟨v, e, f w v (List.mem_of_getElem? h2) q⟩, r.few⟩
theorem blw_of_f : ∀ {fs : List (Option W)} {w : W}, fblw m fs = true → some w ∈ fs → W.blw m w = true
  | [], _, _, h => by cases h
  | none :: fs, w, h, hm => by
    rcases List.mem_cons.mp hm with z | z
    · cases z
    · exact blw_of_f (by simpa [fblw] using h) z
  | some x :: fs, w, h, hm => by
    have h' : W.blw m x = true ∧ fblw m fs = true := by simpa [fblw] using h
    rcases List.mem_cons.mp hm with z | z
    · cases z; exact h'.1
    · exact blw_of_f h'.2 z
/-! ### a new cell, a cell changed, a new thing -/
/-- two names of one extension -/
theorem live_of_set {n : Nat} {c d : Cell} {b : Addr} (hn : G[n]? = some c) (hc : c ≠ .dead) (l : isLive Z (G.set n d) b) : isLive Z G b := by
  obtain ⟨k, x, e, nd, rfl⟩ := l
  by_cases hk : n = k
  · subst hk; exact ⟨n, c, hn, hc, rfl⟩
  · rw [List.getElem?_set_ne hk] at e; exact ⟨k, x, e, nd, rfl⟩
/-- a live object written -/
theorem Ext.put {n : Nat} {c d : Cell} {o : HO} (h : HRep C Z G H) (hn : G[n]? = some c) (hc : c ≠ .dead) (hd : d ≠ .dead)
    (hnew : CellRep C Z G.length (upd H (Z.α n) o) (Z.α n) d) : Ext C Z G H Z (G.set n d) (upd H (Z.α n) o) := by
  have lv : isLive Z G (Z.α n) := ⟨n, c, hn, hc, rfl⟩
  have nn : H (Z.α n) ≠ none := by
    obtain ⟨o, q, _⟩ := h.live_obj lv
    rw [q]; simp
  have fr : ∀ b u, H b = some u → ¬ isLive Z G b → upd H (Z.α n) o b = some u := fun b u e nl => by
    rw [upd_ne (fun z => nl (by rw [z]; exact lv))]; exact e
  have dm : ∀ b, upd H (Z.α n) o b = none → H b = none := fun b e => by
    by_cases hb : b = Z.α n
    · subst hb; rw [upd_same] at e; cases e
    · rw [upd_ne hb] at e; exact e
  -- the extension without the last part
  have pre : HRep C Z (G.set n d) (upd H (Z.α n) o) → Ext C Z G H Z (G.set n d) (upd H (Z.α n) o) := fun hr =>
    ⟨by simp, fun _ _ => rfl, fr, fun _ s => s, fun _ s => .inl s, fun b l => .inl (live_of_set hn hc l), dm, hr⟩
  have rd : ∀ {a : Addr} {u : HO}, Rd H a u → ¬ isLive Z G a → Rd (upd H (Z.α n) o) a u := fun {a u} r nl => by
    rcases r with r | ⟨q, r⟩
    · exact .inl (fr a _ r nl)
    · exact .inr ⟨q, fr a _ r nl⟩
  have sq : ∀ {a : Addr} {vs : List V}, SqLs C Z H a vs → SqLs C Z (upd H (Z.α n) o) a vs := fun {a vs} r => by
    rcases r with ⟨r, ns⟩ | r
    · exact .inl ⟨rd r fun l => ns (h.liveS l), ns⟩
    · exact .inr r
  have st : ∀ {a : Addr} {vs : List V}, SqT C.K H a vs → SqT C.K (upd H (Z.α n) o) a vs := fun {a vs} r => by
    rcases r with (r | ⟨q, r⟩) | r
    · exact .inl (.inl (fr a _ r fun l => h.live_tup l vs r))
    · exact .inl (.inr ⟨q, fr a _ r fun l => h.live_frz l q _ r⟩)
    · exact .inr r
  have exs : ∀ {a : Addr} {φ : Heap → Prop}, H a = some (.ext φ) → upd H (Z.α n) o a = some (.ext φ) := fun {a φ} r => fr a _ r fun l => h.live_ext l φ r
  have rp : (∀ {w : W} {v : V}, Rep C Z G.length H w v → Rep C Z G.length (upd H (Z.α n) o) w v) ∧ ∀ {ws : List W} {vs : List V}, RepL C Z G.length H ws vs → RepL C Z G.length (upd H (Z.α n) o) ws vs := by
    constructor
    · intro w v r
      exact Rep.rec (C := C) (Z := Z) (n := G.length) (H := H) (motive_1 := fun w v _ => Rep C Z G.length (upd H (Z.α n) o) w v) (motive_2 := fun ws vs _ => RepL C Z G.length (upd H (Z.α n) o) ws vs)
        .non .bl .int .str (fun s _ r => .tup (st s) r) (fun s _ r => .lst (sq s) r) .ref .fn (fun k a b => .lam k (exs a) (exs b)) .nil (fun _ _ a b => .cons a b) r
    · intro ws vs r
      exact RepL.rec (C := C) (Z := Z) (n := G.length) (H := H) (motive_1 := fun w v _ => Rep C Z G.length (upd H (Z.α n) o) w v) (motive_2 := fun ws vs _ => RepL C Z G.length (upd H (Z.α n) o) ws vs)
        .non .bl .int .str (fun s _ r => .tup (st s) r) (fun s _ r => .lst (sq s) r) .ref .fn (fun k a b => .lam k (exs a) (exs b)) .nil (fun _ _ a b => .cons a b) r
  refine pre ⟨fun k x e => ?_, fun k l x y e1 e2 n1 n2 he => ?_, fun b s z => h.sd b s (dm b z)⟩
  · rw [List.length_set]
    by_cases hk : n = k
    · subst hk
      rw [List.getElem?_set_self (by exact (List.getElem?_eq_some_iff.mp hn).1)] at e
      cases e
      exact hnew
    · rw [List.getElem?_set_ne hk] at e
      have q := h.cells k x e
      cases x with
      | dead => trivial
      | lst xs =>
        obtain ⟨vs, q1, q2, q3⟩ := q
        have ne : Z.α k ≠ Z.α n := fun z => hk (h.inj n k c _ hn e hc (by simp) z.symm)
        exact ⟨vs, by rw [upd_ne ne]; exact q1, rp.2 q2, q3⟩
      | ins c' fs =>
        obtain ⟨dx, fv, q1, q2, q3⟩ := q
        have ne : Z.α k ≠ Z.α n := fun z => hk (h.inj n k c _ hn e hc (by simp) z.symm)
        exact ⟨dx, fv, by rw [upd_ne ne]; exact q1, q2.map fun w v _ r => rp.1 r, q3⟩
      | dct ks xs =>
        obtain ⟨kvs, q1, q2, q3, q4⟩ := q
        have ne : Z.α k ≠ Z.α n := fun z => hk (h.inj n k c _ hn e hc (by simp) z.symm)
        exact ⟨kvs, by rw [upd_ne ne]; exact q1, q2, rp.2 q3, q4⟩
      | tab i =>
        obtain ⟨q0, ⟨ps, q1, q2, q3⟩, q4⟩ := q
        have ne : Z.α k ≠ Z.α n := fun z => hk (h.inj n k c _ hn e hc (by simp) z.symm)
        refine ⟨q0, ⟨ps, by rw [upd_ne ne]; exact q1, q2, fun pos cv hcv => ?_⟩, q4⟩
        obtain ⟨c0, e1, e2⟩ := q3 pos cv hcv
        exact ⟨c0, e1, exs e2⟩
  · have back : ∀ (k : Nat) (x : Cell), (G.set n d)[k]? = some x → x ≠ .dead → ∃ x' : Cell, G[k]? = some x' ∧ x' ≠ .dead := fun k x e nd => by
      by_cases hk : n = k
      · subst hk; exact ⟨c, hn, hc⟩
      · rw [List.getElem?_set_ne hk] at e; exact ⟨x, e, nd⟩
    obtain ⟨x', e1', n1'⟩ := back k x e1 n1
    obtain ⟨y', e2', n2'⟩ := back l y e2 n2
    exact h.inj k l x' y' e1' e2' n1' n2' he
/-- the heap grows by what no cell speaks of -/
theorem Ext.grow (h : HRep C Z G H) (e : ∀ b o, H b = some o → H' b = some o) : Ext C Z G H Z G H' := by
  have sq : ∀ {a : Addr} {vs : List V}, SqLs C Z H a vs → SqLs C Z H' a vs := fun {a vs} r => by
    rcases r with ⟨r | ⟨q, r⟩, ns⟩ | r
    · exact .inl ⟨.inl (e _ _ r), ns⟩
    · exact .inl ⟨.inr ⟨q, e _ _ r⟩, ns⟩
    · exact .inr r
  have st : ∀ {a : Addr} {vs : List V}, SqT C.K H a vs → SqT C.K H' a vs := fun {a vs} r => by
    rcases r with (r | ⟨q, r⟩) | r
    · exact .inl (.inl (e _ _ r))
    · exact .inl (.inr ⟨q, e _ _ r⟩)
    · exact .inr r
  have rp : (∀ {w : W} {v : V}, Rep C Z G.length H w v → Rep C Z G.length H' w v) ∧ ∀ {ws : List W} {vs : List V}, RepL C Z G.length H ws vs → RepL C Z G.length H' ws vs := by
    constructor
    · intro w v r
      exact Rep.rec (C := C) (Z := Z) (n := G.length) (H := H) (motive_1 := fun w v _ => Rep C Z G.length H' w v) (motive_2 := fun ws vs _ => RepL C Z G.length H' ws vs)
        .non .bl .int .str (fun s _ r => .tup (st s) r) (fun s _ r => .lst (sq s) r) .ref .fn (fun k a b => .lam k (e _ _ a) (e _ _ b)) .nil (fun _ _ a b => .cons a b) r
    · intro ws vs r
      exact RepL.rec (C := C) (Z := Z) (n := G.length) (H := H) (motive_1 := fun w v _ => Rep C Z G.length H' w v) (motive_2 := fun ws vs _ => RepL C Z G.length H' ws vs)
        .non .bl .int .str (fun s _ r => .tup (st s) r) (fun s _ r => .lst (sq s) r) .ref .fn (fun k a b => .lam k (e _ _ a) (e _ _ b)) .nil (fun _ _ a b => .cons a b) r
  refine ⟨Nat.le_refl _, fun _ _ => rfl, fun b o q _ => e b o q, fun _ s => s, fun _ s => .inl s, fun _ l => .inl l, fun b q => ?_, ⟨fun k x q => ?_, h.inj, fun b s z => by
    cases q : H b with
    | none => exact h.sd b s q
    | some o => rw [e b o q] at z; cases z⟩⟩
  · cases z : H b with
    | none => rfl
    | some o => rw [e b o z] at q; cases q
  · have q := h.cells k x q
    cases x with
    | dead => trivial
    | lst xs =>
      obtain ⟨vs, q1, q2, q3⟩ := q
      exact ⟨vs, e _ _ q1, rp.2 q2, q3⟩
    | ins c' fs =>
      obtain ⟨dx, fv, q1, q2, q3⟩ := q
      exact ⟨dx, fv, e _ _ q1, q2.map fun w v _ r => rp.1 r, q3⟩
    | dct ks xs =>
      obtain ⟨kvs, q1, q2, q3, q4⟩ := q
      exact ⟨kvs, e _ _ q1, q2, rp.2 q3, q4⟩
    | tab i => exact ⟨q.1, q.2.1.ext e, q.2.2⟩
theorem same_new {p : Addr} {o : HO} (hp : H p = none) : ∀ b u, H b = some u → upd H p o b = some u := fun b u e => by
  rw [upd_ne (ne_of_none e hp)]; exact e
/-! ### general carrying over -/
mutual
theorem Rep.via (st : ∀ (a : Addr) (vs : List V), SqT C.K H a vs → SqT C.K H' a vs) (sq : ∀ (a : Addr) (vs : List V), SqLs C Z H a vs → SqLs C Z' H' a vs) (al : ∀ k, k < n → k < m ∧ Z'.α k = Z.α k) (ex : ∀ (a : Addr) (φ : Heap → Prop), H a = some (.ext φ) → H' a = some (.ext φ)) :
    ∀ {w : W} {v : V}, Rep C Z n H w v → Rep C Z' m H' w v
  | _, _, .non => .non
  | _, _, .bl b => .bl b
  | _, _, .int i => .int i
  | _, _, .str y => .str y
  | _, _, .tup s r => .tup (st _ _ s) (RepL.via st sq al ex r)
  | _, _, .lst s r => .lst (sq _ _ s) (RepL.via st sq al ex r)
  | _, _, .ref hm => by
    rw [← (al _ hm).2]
    exact .ref (al _ hm).1
  | _, _, .fn i p => .fn i p
  | _, _, .lam k a b => .lam k (ex _ _ a) (ex _ _ b)
theorem RepL.via (st : ∀ (a : Addr) (vs : List V), SqT C.K H a vs → SqT C.K H' a vs) (sq : ∀ (a : Addr) (vs : List V), SqLs C Z H a vs → SqLs C Z' H' a vs) (al : ∀ k, k < n → k < m ∧ Z'.α k = Z.α k) (ex : ∀ (a : Addr) (φ : Heap → Prop), H a = some (.ext φ) → H' a = some (.ext φ)) :
    ∀ {ws : List W} {vs : List V}, RepL C Z n H ws vs → RepL C Z' m H' ws vs
  | _, _, .nil => .nil
  | _, _, .cons a b => .cons (Rep.via st sq al ex a) (RepL.via st sq al ex b)
end
theorem CellRep.via (st : ∀ (a : Addr) (vs : List V), SqT C.K H a vs → SqT C.K H' a vs) (sq : ∀ (a : Addr) (vs : List V), SqLs C Z H a vs → SqLs C Z' H' a vs) (al : ∀ k, k < n → k < m ∧ Z'.α k = Z.α k) (ex : ∀ (a : Addr) (φ : Heap → Prop), H a = some (.ext φ) → H' a = some (.ext φ))
    {a : Addr} {c : Cell} (e : c ≠ .dead → ∀ o, H a = some o → H' a = some o) (s : c ≠ .dead → Z.S a → Z'.S a) (r : CellRep C Z n H a c) : CellRep C Z' m H' a c := by
  cases c with
  | dead => trivial
  | lst xs =>
    obtain ⟨vs, q1, q2, q3⟩ := r
    exact ⟨vs, e (by simp) _ q1, RepL.via st sq al ex q2, s (by simp) q3⟩
  | ins c fs =>
    obtain ⟨dx, fv, q1, q2, q3⟩ := r
    exact ⟨dx, fv, e (by simp) _ q1, q2.map fun w v _ r => Rep.via st sq al ex r, s (by simp) q3⟩
  | dct ks xs =>
    obtain ⟨kvs, q1, q2, q3, q4⟩ := r
    exact ⟨kvs, e (by simp) _ q1, q2, RepL.via st sq al ex q3, s (by simp) q4⟩
  | tab i =>
    obtain ⟨q0, ⟨ps, q1, q2, q3⟩, q4⟩ := r
    refine ⟨q0, ⟨ps, e (by simp) _ q1, q2, fun pos cv hcv => ?_⟩, s (by simp) q4⟩
    obtain ⟨c0, e1, e2⟩ := q3 pos cv hcv
    exact ⟨c0, e1, ex _ _ e2⟩
/-- one cell more, at p -/
def Wit.more (Z : Wit) (n : Nat) (p : Addr) : Wit := ⟨fun k => if k = n then p else Z.α k, fun b => Z.S b ∨ b = p⟩
theorem SqT.grow {a : Addr} {vs : List V} (e : ∀ b o, H b = some o → H' b = some o) (r : SqT C.K H a vs) : SqT C.K H' a vs := by
  rcases r with (r | ⟨q, r⟩) | r
  · exact .inl (.inl (e _ _ r))
  · exact .inl (.inr ⟨q, e _ _ r⟩)
  · exact .inr r
theorem SqLs.more {a p : Addr} {vs : List V} (hp : H p = none) (e : ∀ b o, H b = some o → H' b = some o) (r : SqLs C Z H a vs) : SqLs C (Z.more n p) H' a vs := by
  rcases r with ⟨r, ns⟩ | r
  · refine .inl ⟨?_, fun z => z.elim ns fun z => ?_⟩
    · rcases r with r | ⟨q, r⟩
      · exact .inl (e _ _ r)
      · exact .inr ⟨q, e _ _ r⟩
    · subst z
      rcases r with r | ⟨q, r⟩ <;> (rw [hp] at r; cases r)
  · exact .inr r
theorem more_al {p : Addr} : ∀ k, k < n → k < n + 1 ∧ (Z.more n p).α k = Z.α k := fun k h => ⟨by omega, if_neg (by omega)⟩
theorem Rep.newc {p : Addr} {w : W} {v : V} (hp : H p = none) (e : ∀ b o, H b = some o → H' b = some o) (r : Rep C Z n H w v) : Rep C (Z.more n p) (n + 1) H' w v :=
  r.via (fun _ _ => SqT.grow e) (fun _ _ => SqLs.more hp e) more_al fun _ _ => e _ _
theorem RepL.newc {p : Addr} {w : List W} {v : List V} (hp : H p = none) (e : ∀ b o, H b = some o → H' b = some o) (r : RepL C Z n H w v) : RepL C (Z.more n p) (n + 1) H' w v :=
  r.via (fun _ _ => SqT.grow e) (fun _ _ => SqLs.more hp e) more_al fun _ _ => e _ _
theorem Ext.newc {p : Addr} {c : Cell} (h : HRep C Z G H) (hp : H p = none) (e : ∀ b o, H b = some o → H' b = some o) (hc : CellRep C (Z.more G.length p) (G.length + 1) H' p c) (hq : H' p ≠ none) :
    Ext C Z G H (Z.more G.length p) (G ++ [c]) H' := by
  have at_ : ∀ (k : Nat) (x : Cell), (G ++ [c])[k]? = some x → (k < G.length ∧ G[k]? = some x) ∨ (k = G.length ∧ x = c) := fun k x q => by
    by_cases hk : k < G.length
    · rw [List.getElem?_append_left hk] at q; exact .inl ⟨hk, q⟩
    · rw [List.getElem?_append_right (by omega)] at q
      have hk2 : k - G.length = 0 := by
        have := (List.getElem?_eq_some_iff.mp q).1
        simp at this; omega
      rw [hk2] at q
      simp at q
      exact .inr ⟨by omega, q.symm⟩
  have lvn : ∀ b, isLive Z G b → H b ≠ none := fun b ⟨n, x, e1, nd, e2⟩ => by
    subst e2
    obtain ⟨o, q, _⟩ := h.live_obj ⟨n, x, e1, nd, rfl⟩
    rw [q]; simp
  have ap : (Z.more G.length p).α G.length = p := if_pos rfl
  have ao : ∀ k, k < G.length → (Z.more G.length p).α k = Z.α k := fun k hk => if_neg (by omega)
  refine ⟨by simp, fun k hk => ao k hk, fun b o q _ => e b o q, fun b s => .inl s, fun b s => s.elim .inl fun z => .inr (by rw [z]; exact hp), fun b l => ?_, fun b q => ?_, ⟨fun k x q => ?_, fun k l x y e1 e2 n1 n2 he => ?_, fun b s z => by
    rcases s with s | s
    · cases q : H b with
      | none => exact h.sd b s q
      | some o => rw [e b o q] at z; cases z
    · rw [s] at z; exact hq z⟩⟩
  · obtain ⟨k, x, e1, nd, e2⟩ := l
    rcases at_ k x e1 with ⟨hk, e1⟩ | ⟨hk, _⟩
    · rw [ao k hk] at e2; exact .inl ⟨k, x, e1, nd, e2⟩
    · subst hk; rw [ap] at e2; subst e2; exact .inr hp
  · cases z : H b with
    | none => rfl
    | some o => rw [e b o z] at q; cases q
  · rw [List.length_append]
    rcases at_ k x q with ⟨hk, q⟩ | ⟨hk, q⟩
    · rw [ao k hk]
      exact (h.cells k x q).via (fun _ _ => SqT.grow e) (fun _ _ => SqLs.more hp e) more_al (fun _ _ => e _ _) (fun _ o => e _ o) fun _ s => .inl s
    · subst hk; rename_i qq; rw [qq, ap]; exact hc
  · rcases at_ k x e1 with ⟨hk, e1⟩ | ⟨hk, e1⟩ <;> rcases at_ l y e2 with ⟨hl, e2⟩ | ⟨hl, e2⟩
    · rw [ao k hk, ao l hl] at he; exact h.inj k l x y e1 e2 n1 n2 he
    · subst hl
      rw [ao k hk, ap] at he
      exact absurd hp (by rw [← he]; exact lvn _ ⟨k, x, e1, n1, rfl⟩)
    · subst hk
      rw [ao l hl, ap] at he
      exact absurd hp (by rw [he]; exact lvn _ ⟨l, y, e2, n2, rfl⟩)
    · omega
/-- a cell is let go: what it holds stands from now on -/
def Wit.less (Z : Wit) (p : Addr) : Wit := ⟨Z.α, fun b => Z.S b ∧ b ≠ p⟩
theorem Ext.frz {k : Nat} {xs : List W} {Z0 : Wit} {G0 : Hh} {H0 : Hp} (x : Ext C Z0 G0 H0 Z G H) (h : HRep C Z G H) (hk : G[k]? = some (.lst xs)) (hf : ¬ Z0.S (Z.α k)) :
    Ext C Z0 G0 H0 (Z.less (Z.α k)) (G.set k .dead) H ∧ Rep C (Z.less (Z.α k)) G.length H (.lst xs) (.ref (Z.α k)) := by
  obtain ⟨vs, q1, q2, q3⟩ := h.cells k _ hk
  have sq : ∀ (a : Addr) (vs : List V), SqLs C Z H a vs → SqLs C (Z.less (Z.α k)) H a vs := fun a vs r => by
    rcases r with ⟨r, ns⟩ | r
    · exact .inl ⟨r, fun z => ns z.1⟩
    · exact .inr r
  have al : ∀ j, j < G.length → j < G.length ∧ (Z.less (Z.α k)).α j = Z.α j := fun j hj => ⟨hj, rfl⟩
  have lv : ∀ b, isLive (Z.less (Z.α k)) (G.set k .dead) b → isLive Z G b := fun b ⟨j, c, e1, nd, e2⟩ => by
    by_cases hj : k = j
    · subst hj
      rw [List.getElem?_set_self (List.getElem?_eq_some_iff.mp hk).1] at e1
      cases e1
      exact absurd rfl nd
    · rw [List.getElem?_set_ne hj] at e1
      exact ⟨j, c, e1, nd, e2⟩
  refine ⟨⟨by rw [List.length_set]; exact x.len, x.al, x.fr, fun b s => ⟨x.s1 b s, fun z => hf (z ▸ s)⟩, fun b s => x.s2 b s.1, fun b l => x.nl b (lv b l), x.dm, ⟨fun j c e => ?_, fun i j c d e1 e2 n1 n2 he => ?_, fun b s => h.sd b s.1⟩⟩, ?_⟩
  · rw [List.length_set]
    by_cases hj : k = j
    · subst hj
      rw [List.getElem?_set_self (List.getElem?_eq_some_iff.mp hk).1] at e
      cases e
      trivial
    · rw [List.getElem?_set_ne hj] at e
      refine (h.cells j c e).via (fun _ _ r => r) sq al (fun _ _ r => r) (fun _ _ r => r) fun nd s => ⟨s, fun z => hj (h.inj k j _ c hk e (by simp) nd z.symm)⟩
  · have back : ∀ (j : Nat) (c : Cell), (G.set k .dead)[j]? = some c → c ≠ .dead → G[j]? = some c := fun j c e nd => by
      by_cases hj : k = j
      · subst hj
        rw [List.getElem?_set_self (List.getElem?_eq_some_iff.mp hk).1] at e
        cases e
        exact absurd rfl nd
      · rw [List.getElem?_set_ne hj] at e; exact e
    exact h.inj i j c d (back i c e1 n1) (back j d e2 n2) n1 n2 he
  · exact .lst (.inl ⟨.inl q1, fun z => z.2 rfl⟩) (q2.via (fun _ _ r => r) sq al (fun _ _ r => r))
/-! ### the end of a call: new cells fall away -/
theorem okTr_at : ∀ {G0 G1 : Hh} (k : Nat) (c : Cell), okTr n G0 G1 = true → G0[k]? = some c → ∃ d, G1[k]? = some d ∧ (c = d ∨ Cell.blw n d = true)
  | [], _, _, _, _, e => by simp at e
  | _ :: _, [], _, _, h, _ => by simp [okTr] at h
  | a :: as, b :: bs, 0, c, h, e => by
    simp only [okTr, Bool.and_eq_true, Bool.or_eq_true] at h
    simp at e; subst e
    exact ⟨b, rfl, h.1.imp Cell.beq_eq id⟩
  | a :: as, b :: bs, k + 1, c, h, e => by
    simp only [okTr, Bool.and_eq_true, Bool.or_eq_true] at h
    obtain ⟨d, h1, h2⟩ := okTr_at (G0 := as) (G1 := bs) k c h.2 (by simpa using e)
    exact ⟨d, by simpa using h1, h2⟩
theorem CellRep.less {a : Addr} {c : Cell} (r : CellRep C Z n H a c) (h : Cell.blw m c = true) : CellRep C Z m H a c := by
  cases c with
  | dead => trivial
  | lst xs =>
    obtain ⟨vs, q1, q2, q3⟩ := r
    exact ⟨vs, q1, q2.less (by simpa [Cell.blw] using h), q3⟩
  | ins c fs =>
    obtain ⟨dx, fv, q1, q2, q3⟩ := r
    exact ⟨dx, fv, q1, q2.map fun w v hw r => r.less (blw_of_f (by simpa [Cell.blw] using h) hw), q3⟩
  | dct ks xs =>
    obtain ⟨kvs, q1, q2, q3, q4⟩ := r
    exact ⟨kvs, q1, q2, q3.less (by simpa [Cell.blw] using h), q4⟩
  | tab i => exact r
theorem Ext.trunc (h : HRep C Z G H) (x : Ext C Z G H Z' G' H') (t : okTr G.length G G' = true) : Ext C Z G H Z' (G'.take G.length) H' := by
  have len : (G'.take G.length).length = G.length := by rw [List.length_take]; have := x.len; omega
  have back : ∀ (k : Nat) (c : Cell), (G'.take G.length)[k]? = some c → k < G.length ∧ G'[k]? = some c := fun k c e => by
    have hk : k < G.length := by
      have := (List.getElem?_eq_some_iff.mp e).1
      omega
    rw [List.getElem?_take_of_lt hk] at e
    exact ⟨hk, e⟩
  refine ⟨by omega, x.al, x.fr, x.s1, x.s2, fun b ⟨k, c, e, nd, e2⟩ => x.nl b ⟨k, c, (back k c e).2, nd, e2⟩, x.dm, ⟨fun k c e => ?_, fun i j c d e1 e2 => x.hr.inj i j c d (back i c e1).2 (back j d e2).2, x.hr.sd⟩⟩
  obtain ⟨hk, e'⟩ := back k c e
  rw [len]
  obtain ⟨d, hd1, hd2⟩ := okTr_at k _ t (List.getElem?_eq_getElem hk)
  rw [e'] at hd1
  cases hd1
  have q' := x.hr.cells k c e'
  rcases hd2 with hd2 | hd2
  · have q := h.cells k _ (List.getElem?_eq_getElem hk)
    rw [hd2, ← x.al k hk] at q
    -- the cell as it stood, now
    cases c with
    | dead => trivial
    | lst xs =>
      obtain ⟨vs, q1, q2, q3⟩ := q
      obtain ⟨vs', p1, p2, p3⟩ := q'
      have r := RepL.ext x h q2
      have hb : ∀ {ws : List W} {vs : List V}, RepL C Z G.length H ws vs → W.blws G.length ws = true := by
        intro ws vs r
        exact RepL.rec (C := C) (Z := Z) (n := G.length) (H := H) (motive_1 := fun w _ _ => W.blw G.length w = true) (motive_2 := fun ws _ _ => W.blws G.length ws = true)
          (by simp [W.blw]) (fun _ => by simp [W.blw]) (fun _ => by simp [W.blw]) (fun _ => by simp [W.blw]) (fun _ _ z => by simpa [W.blw] using z) (fun _ _ z => by simpa [W.blw] using z)
          (fun hm => by simpa [W.blw] using hm) (fun _ _ => by simp [W.blw]) (fun _ _ _ => by simp [W.blw]) (by simp [W.blws]) (fun _ _ a b => by rw [W.blws, a, b]; rfl) r
      exact ⟨vs', p1, p2.less (hb q2), p3⟩
    | tab i => exact q'
    | dct ks xs =>
      obtain ⟨kvs, q1, q2, q3, q4⟩ := q
      obtain ⟨kvs', p1, p2, p3, p4⟩ := q'
      have hb : ∀ {ws : List W} {vs : List V}, RepL C Z G.length H ws vs → W.blws G.length ws = true := by
        intro ws vs r
        exact RepL.rec (C := C) (Z := Z) (n := G.length) (H := H) (motive_1 := fun w _ _ => W.blw G.length w = true) (motive_2 := fun ws _ _ => W.blws G.length ws = true)
          (by simp [W.blw]) (fun _ => by simp [W.blw]) (fun _ => by simp [W.blw]) (fun _ => by simp [W.blw]) (fun _ _ z => by simpa [W.blw] using z) (fun _ _ z => by simpa [W.blw] using z)
          (fun hm => by simpa [W.blw] using hm) (fun _ _ => by simp [W.blw]) (fun _ _ _ => by simp [W.blw]) (by simp [W.blws]) (fun _ _ a b => by rw [W.blws, a, b]; rfl) r
      exact ⟨kvs', p1, p2, p3.less (hb q3), p4⟩
    | ins c fs =>
      obtain ⟨dx, fv, q1, q2, q3⟩ := q
      obtain ⟨dx', fv', p1, p2, p3⟩ := q'
      have hb : ∀ {w : W} {v : V}, Rep C Z G.length H w v → W.blw G.length w = true := by
        intro w v r
        exact Rep.rec (C := C) (Z := Z) (n := G.length) (H := H) (motive_1 := fun w _ _ => W.blw G.length w = true) (motive_2 := fun ws _ _ => W.blws G.length ws = true)
          (by simp [W.blw]) (fun _ => by simp [W.blw]) (fun _ => by simp [W.blw]) (fun _ => by simp [W.blw]) (fun _ _ z => by simpa [W.blw] using z) (fun _ _ z => by simpa [W.blw] using z)
          (fun hm => by simpa [W.blw] using hm) (fun _ _ => by simp [W.blw]) (fun _ _ _ => by simp [W.blw]) (by simp [W.blws]) (fun _ _ a b => by rw [W.blws, a, b]; rfl) r
      refine ⟨dx', fv', p1, p2.map fun w v hw r => r.less ?_, p3⟩
      obtain ⟨j, hj⟩ := List.getElem?_of_mem hw
      have hj2 : j < (C.fl c).length := by rw [← q2.len]; exact (List.getElem?_eq_some_iff.mp hj).1
      obtain ⟨v, _, rv⟩ := q2.yes j _ w (List.getElem?_eq_getElem hj2) hj
      exact hb rv
  · exact q'.less hd2
theorem Rep.trunc {w : W} {v : V} (x : Ext C Z G H Z' G' H') (r : Rep C Z' G'.length H' w v) (b : W.blw G.length w = true) : Rep C Z' (G'.take G.length).length H' w v := by
  have len : (G'.take G.length).length = G.length := by rw [List.length_take]; have := x.len; omega
  rw [len]
  exact r.less b
/-! ### slots -/
structure StRep (C : Cn) (Z : Wit) (n : Nat) (H : Hp) (ρ : Rho) (σ : L2.St) : Prop where
  len : ρ.length = σ.length
  at_ : ∀ (i : Nat) (w : W), ρ[i]? = some (some w) → ∃ v, σ[i]? = some (some v) ∧ Rep C Z n H w v
theorem StRep.ext {ρ : Rho} {σ : L2.St} (r : StRep C Z G.length H ρ σ) (x : Ext C Z G H Z' G' H') (h : HRep C Z G H) : StRep C Z' G'.length H' ρ σ :=
  ⟨r.len, fun i w e => by
    obtain ⟨v, e1, q⟩ := r.at_ i w e
    exact ⟨v, e1, q.ext x h⟩⟩
theorem StRep.set {ρ : Rho} {σ : L2.St} {w : W} {v : V} (r : StRep C Z n H ρ σ) (i : Nat) (q : Rep C Z n H w v) : StRep C Z n H (ρ.set i (some w)) (σ.set i (some v)) := by
  refine ⟨by simp [r.len], fun j y e => ?_⟩
  by_cases hj : i = j
  · subst hj
    have hi : i < ρ.length := by
      have := (List.getElem?_eq_some_iff.mp e).1
      simpa using this
    rw [List.getElem?_set_self hi] at e
    cases e
    exact ⟨v, by rw [List.getElem?_set_self (by rw [← r.len]; exact hi)], q⟩
  · rw [List.getElem?_set_ne hj] at e
    obtain ⟨u, e1, q1⟩ := r.at_ j y e
    exact ⟨u, by rw [List.getElem?_set_ne hj]; exact e1, q1⟩
theorem StRep.unset {ρ : Rho} {σ : L2.St} (r : StRep C Z n H ρ σ) (i : Nat) : StRep C Z n H (ρ.set i none) (σ.set i none) := by
  refine ⟨by simp [r.len], fun j y e => ?_⟩
  by_cases hj : i = j
  · subst hj
    have hi : i < ρ.length := by
      have := (List.getElem?_eq_some_iff.mp e).1
      simpa using this
    rw [List.getElem?_set_self hi] at e
    cases e
  · rw [List.getElem?_set_ne hj] at e
    obtain ⟨u, e1, q1⟩ := r.at_ j y e
    exact ⟨u, by rw [List.getElem?_set_ne hj]; exact e1, q1⟩
theorem StRep.wipe {ρ : Rho} {σ : L2.St} (r : StRep C Z n H ρ σ) : ∀ vs : List Nat, StRep C Z n H (wipeR ρ vs) (L2.wipe σ vs)
  | [] => r
  | v :: vs => (StRep.wipe r vs).unset v
theorem StRep.get {ρ : Rho} {σ : L2.St} (r : StRep C Z n H ρ σ) {i : Nat} {w : W} (e : getS ρ i = some w) : ∃ v, σ[i]? = some (some v) ∧ Rep C Z n H w v := by
  unfold getS at e
  split at e
  · rename_i u hu
    cases e
    exact r.at_ i _ hu
  · cases e
end
end PI
end

section
set_option autoImplicit false
/-! PI2: what an expression gives, as a reading; the rules for expressions. -/
namespace PI
open PySem L2

section
variable (C : Cn)
/-- an error as it lies -/
def ExcAt (Z : Wit) (G : Hh) (H : Hp) (c : Nat) (p : Option W) (d : Option Addr) : Prop := match p with
  | none => d = none
  | some w => ∃ dd v, d = some dd ∧ H dd = some (.xd [(C.xf c, v)]) ∧ Rep C Z G.length H w v
/-- a result is what is wanted: Wx of an error, Q of a value -/
def okG {α β : Type} (Wx : WX) (σ : L2.St) (rel : Wit → Nat → Hp → α → β → Prop) (Z : Wit) (G : Hh) (H : Hp) (r : R α) (Q : β → Hp → Prop) : Prop := match r with
  | .ok a G' => ∀ Z' H' b, Ext C Z G H Z' G' H' → rel Z' G'.length H' a b → Q b H'
  | .ex c p G' => ∀ Z' H' d, Ext C Z G H Z' G' H' → ExcAt C Z' G' H' c p d → Wx (.ref (C.xa c)) d σ H'
  | .bad => False
/-- the reading of what f gives -/
def tG {α β : Type} (Wx : WX) (rel : Wit → Nat → Hp → α → β → Prop) (f : Rho → Hh → R α) : L2.St → Hp → (β → Hp → Prop) → Prop := fun σ H Q =>
  ∃ ρ Z G, StRep C Z G.length H ρ σ ∧ HRep C Z G H ∧ okG C Wx σ rel Z G H (f ρ G) Q
def relB : Wit → Nat → Hp → Bool → Bool → Prop := fun _ _ _ a b => a = b
def relO : Wit → Nat → Hp → Option Int → Option Int → Prop := fun _ _ _ a b => a = b
abbrev tE (Wx : WX) (f : Rho → Hh → R W) : TE := tG C Wx (Rep C) f
abbrev tA (Wx : WX) (f : Rho → Hh → R (List W)) : TA := tG C Wx (RepL C) f
abbrev tT (Wx : WX) (f : Rho → Hh → R Bool) : TT := tG C Wx relB f
end

section
variable {C : Cn} {Wx : WX} {X : Cx}
theorem okG.ext {α β : Type} {σ : L2.St} {rel : Wit → Nat → Hp → α → β → Prop} {Z Z1 : Wit} {G G1 : Hh} {H H1 : Hp} {r : R α} {Q : β → Hp → Prop} (h : okG C Wx σ rel Z G H r Q) (x : Ext C Z G H Z1 G1 H1) : okG C Wx σ rel Z1 G1 H1 r Q := by
  cases r with
  | ok a G' => exact fun Z' H' b y => h Z' H' b (x.trans y)
  | ex c p G' => exact fun Z' H' d y => h Z' H' d (x.trans y)
  | bad => exact h
/-- what is known behind a part -/
structure Mid {α β : Type} (C : Cn) (rel : Wit → Nat → Hp → α → β → Prop) (ρ : Rho) (σ : L2.St) (Z : Wit) (G : Hh) (H : Hp) (a : α) (b : β) (Z1 : Wit) (G1 : Hh) (H1 : Hp) : Prop where
  st : StRep C Z1 G1.length H1 ρ σ
  hr : HRep C Z1 G1 H1
  x : Ext C Z G H Z1 G1 H1
  rep : rel Z1 G1.length H1 a b
theorem tG_bind {α β γ δ : Type} {σ : L2.St} {rel : Wit → Nat → Hp → α → β → Prop} {rel2 : Wit → Nat → Hp → γ → δ → Prop} {ρ : Rho} {Z : Wit} {G : Hh} {H : Hp} {f : Rho → Hh → R α} {k : α → Hh → R γ} {Q : δ → Hp → Prop} {P : β → Hp → Prop}
    (st : StRep C Z G.length H ρ σ) (hr : HRep C Z G H) (h : okG C Wx σ rel2 Z G H ((f ρ G).bind k) Q)
    (hk : ∀ a b Z1 G1 H1, Mid C rel ρ σ Z G H a b Z1 G1 H1 → okG C Wx σ rel2 Z1 G1 H1 (k a G1) Q → P b H1) : tG C Wx rel f σ H P := by
  refine ⟨ρ, Z, G, st, hr, ?_⟩
  cases e : f ρ G with
  | ok a G1 =>
    rw [e] at h
    exact fun Z1 H1 b x r => hk a b Z1 G1 H1 ⟨st.ext x hr, x.hr, x, r⟩ (okG.ext h x)
  | ex c p G1 =>
    rw [e] at h
    exact h
  | bad =>
    rw [e] at h
    exact h
theorem tG_last {α β : Type} {σ : L2.St} {rel : Wit → Nat → Hp → α → β → Prop} {ρ : Rho} {Z : Wit} {G : Hh} {H : Hp} {f : Rho → Hh → R α} {Q : β → Hp → Prop}
    (st : StRep C Z G.length H ρ σ) (hr : HRep C Z G H) (h : okG C Wx σ rel Z G H (f ρ G) Q) : tG C Wx rel f σ H Q := ⟨ρ, Z, G, st, hr, h⟩
/-- a value is there, the heap stands -/
theorem okG.here {α β : Type} {σ : L2.St} {rel : Wit → Nat → Hp → α → β → Prop} {Z : Wit} {G : Hh} {H : Hp} {a : α} {b : β} {Q : β → Hp → Prop} (hr : HRep C Z G H) (h : okG C Wx σ rel Z G H (.ok a G) Q) (r : rel Z G.length H a b) : Q b H :=
  h Z H b (Ext.refl hr) r
theorem PE.mono {e : Expr} {t t' : TE} (h : PE X e t) (i : ∀ σ H Q, t' σ H Q → t σ H Q) : PE X e t' := ⟨fun pins s σ H Q I q => h.run pins s σ H Q I (i σ H Q q)⟩
theorem PT.mono {e : Expr} {t t' : TT} (h : PT X e t) (i : ∀ σ H Q, t' σ H Q → t σ H Q) : PT X e t' := ⟨fun pins s σ H Q I q => h.run pins s σ H Q I (i σ H Q q)⟩
theorem PW.mono {e : Expr} {t t' : TT} (h : PW X e t) (i : ∀ σ H Q, t' σ H Q → t σ H Q) : PW X e t' := ⟨fun wh pins s σ H Q I q => h.run wh pins s σ H Q I (i σ H Q q)⟩
theorem PA.mono {e : List Expr} {t t' : TA} (h : PA X e t) (i : ∀ σ H Q, t' σ H Q → t σ H Q) : PA X e t' := ⟨fun pos pins s σ H Q I q => h.run pos pins s σ H Q I (i σ H Q q)⟩
theorem PS.mono {e : Stmt} {t t' : TS} (h : PS X e t) (i : ∀ D σ H, t' D σ H → t D σ H) : PS X e t' := ⟨fun pins s σ H D I q => h.run pins s σ H D I (i D σ H q)⟩
theorem PSs.mono {e : List Stmt} {t t' : TS} (h : PSs X e t) (i : ∀ D σ H, t' D σ H → t D σ H) : PSs X e t' := ⟨fun pins s σ H D I q => h.run pins s σ H D I (i D σ H q)⟩

/-! ### constants, names -/
theorem s_non {j : Nat} {pos : Pos} : PE X (.Constant .none j pos) (tE C Wx fun _ G => .ok .non G) :=
  PE.mono pe_non fun _ _ _ ⟨_, _, _, _, hr, h⟩ => okG.here hr h Rep.non
theorem s_bl {b : Bool} {j : Nat} {pos : Pos} : PE X (.Constant (.bool b) j pos) (tE C Wx fun _ G => .ok (.bl b) G) :=
  PE.mono pe_bl fun _ _ _ ⟨_, _, _, _, hr, h⟩ => okG.here hr h (Rep.bl b)
theorem s_int {i : Int} {j : Nat} {pos : Pos} : PE X (.Constant (.int i) j pos) (tE C Wx fun _ G => .ok (.int i) G) :=
  PE.mono pe_int fun _ _ _ ⟨_, _, _, _, hr, h⟩ => okG.here hr h (Rep.int i)
theorem s_str {x : Str} {j : Nat} {pos : Pos} : PE X (.Constant (.str x) j pos) (tE C Wx fun _ G => .ok (.str x) G) :=
  PE.mono pe_str fun _ _ _ ⟨_, _, _, _, hr, h⟩ => okG.here hr h (Rep.str x)
theorem s_v {i : Nat} {x : Str} {pos : Pos} (hN : X.N[i]? = some x) (hv : Vis X.env.scope x) (hd : (x == ("__debug__" : Str)) = false) (hcd : (x == ("__classdict__" : Str)) = false) :
    PE X (.Name x pos) (tE C Wx fun ρ G => ofO (getS ρ i) G) :=
  PE.mono (pe_var hN hv hd hcd) fun σ H Q ⟨ρ, Z, G, st, hr, h⟩ => by
    dsimp only at h
    cases e : getS ρ i with
    | none => rw [e] at h; exact h.elim
    | some w =>
      rw [e] at h
      obtain ⟨v, h1, r⟩ := st.get e
      exact ⟨v, h1, okG.here hr h r⟩
theorem s_g {x : Str} {v : V} {u : Value} {w : W} {pos : Pos} (hg : Gl X x) (hm : X.mg x = some u) (r : RelV v u) (hw : ∀ Z n H, Rep C Z n H w v) (hd : (x == ("__debug__" : Str)) = false) : PE X (.Name x pos) (tE C Wx fun _ G => .ok w G) :=
  PE.mono (pe_glob hg hm r hd) fun _ _ _ ⟨_, _, _, _, hr, h⟩ => okG.here hr h (hw _ _ _)

/-! ### operators -/
theorem s_bin {a b e : Expr} {f g : Rho → Hh → R W} {op : W → W → Hh → R W} {r : R2} (hp : ∀ ta tb, PE X a ta → PE X b tb → PE X e (tOp r ta tb))
    (ha : PE X a (tE C Wx f)) (hb : PE X b (tE C Wx g))
    (ho : ∀ (σ : L2.St) x y v u Z G H Q, HRep C Z G H → Rep C Z G.length H x v → Rep C Z G.length H y u → okG C Wx σ (Rep C) Z G H (op x y G) Q → r v u H Q) :
    PE X e (tE C Wx fun ρ G => (f ρ G).bind fun x G1 => (g ρ G1).bind fun y G2 => op x y G2) :=
  PE.mono (hp _ _ ha hb) fun σ H Q ⟨ρ, Z, G, st, hr, h⟩ =>
    tG_bind st hr h fun x v Z1 G1 H1 m h1 => tG_bind m.st m.hr h1 fun y u Z2 G2 H2 m2 h2 =>
      ho σ x y v u Z2 G2 H2 Q m2.hr (m.rep.ext m2.x m.hr) m2.rep h2
theorem Rep.int_inv {Z : Wit} {n : Nat} {H : Hp} {i : Int} {v : V} (r : Rep C Z n H (.int i) v) : v = .int i := by cases r; rfl
theorem okG.ofO_inv {α β : Type} {σ : L2.St} {rel : Wit → Nat → Hp → α → β → Prop} {Z : Wit} {G : Hh} {H : Hp} {o : Option α} {Q : β → Hp → Prop} (h : okG C Wx σ rel Z G H (ofO o G) Q) : ∃ a, o = some a ∧ okG C Wx σ rel Z G H (.ok a G) Q := by
  cases o with
  | none => exact h.elim
  | some a => exact ⟨a, rfl, h⟩
theorem okG.if_inv {α β : Type} {σ : L2.St} {rel : Wit → Nat → Hp → α → β → Prop} {Z : Wit} {G : Hh} {H : Hp} {p : Prop} [Decidable p] {r : R α} {Q : β → Hp → Prop} (h : okG C Wx σ rel Z G H (if p then r else .bad) Q) : p ∧ okG C Wx σ rel Z G H r Q := by
  by_cases c : p
  · rw [if_pos c] at h; exact ⟨c, h⟩
  · rw [if_neg c] at h; exact h.elim
/-- .. whatever S says of it: it is let go of there -/
theorem Ext.unS {Z Z0 : Wit} {G G0 : Hh} {H H0 : Hp} {p : Addr} (x : Ext C Z0 G0 H0 Z G H) (h0 : H0 p = none) (hs : ¬ Z0.S p) (nl : ¬ isLive Z G p) : Ext C Z0 G0 H0 (Z.less p) G H := by
  have sq : ∀ (a : Addr) (vs : List V), SqLs C Z H a vs → SqLs C (Z.less p) H a vs := fun a vs r => by
    rcases r with ⟨r, ns⟩ | r
    · exact .inl ⟨r, fun z => ns z.1⟩
    · exact .inr r
  have al : ∀ j, j < G.length → j < G.length ∧ (Z.less p).α j = Z.α j := fun j hj => ⟨hj, rfl⟩
  exact ⟨x.len, x.al, x.fr, fun b s => ⟨x.s1 b s, fun z => hs (z ▸ s)⟩, fun b s => x.s2 b s.1, fun b l => x.nl b l, x.dm,
    ⟨fun j c e => (x.hr.cells j c e).via (fun _ _ r => r) sq al (fun _ _ r => r) (fun _ _ r => r) fun nd s => ⟨s, fun z => nl ⟨j, c, e, nd, z⟩⟩, x.hr.inj, fun b s => x.hr.sd b s.1⟩⟩
theorem unS_sq {Z : Wit} {H : Hp} {p : Addr} (a : Addr) (vs : List V) (r : SqLs C Z H a vs) : SqLs C (Z.less p) H a vs := by
  rcases r with ⟨r, ns⟩ | r
  · exact .inl ⟨r, fun z => ns z.1⟩
  · exact .inr r
theorem Rep.unS {Z : Wit} {n : Nat} {H : Hp} {p : Addr} {w : W} {v : V} (r : Rep C Z n H w v) : Rep C (Z.less p) n H w v := by
  refine Rep.via (C := C) (Z := Z) (Z' := Z.less p) (n := n) (m := n) (H := H) (H' := H) (fun _ _ r => r) unS_sq (fun j hj => ⟨hj, rfl⟩) (fun _ _ r => r) r
theorem RepL.unS {Z : Wit} {n : Nat} {H : Hp} {p : Addr} {w : List W} {v : List V} (r : RepL C Z n H w v) : RepL C (Z.less p) n H w v := by
  refine RepL.via (C := C) (Z := Z) (Z' := Z.less p) (n := n) (m := n) (H := H) (H' := H) (fun _ _ r => r) unS_sq (fun j hj => ⟨hj, rfl⟩) (fun _ _ r => r) r
theorem live_some {Z : Wit} {G : Hh} {H : Hp} {p : Addr} (hr : HRep C Z G H) (l : isLive Z G p) : H p ≠ none := by
  obtain ⟨o, q, _⟩ := hr.live_obj l
  rw [q]; simp
/-- a new tuple, a new list that nothing changes -/
theorem okG.newT {σ : L2.St} {Z : Wit} {G : Hh} {H : Hp} {xs : List W} {vs : List V} {Q : VK} (hr : HRep C Z G H) (h : okG C Wx σ (Rep C) Z G H (.ok (.tup xs) G) Q) (r : RepL C Z G.length H xs vs) {p : Addr} (hp : H p = none) : Q (.ref p) (upd H p (.tup vs)) := by
  have x := Ext.grow hr (same_new (o := .tup vs) hp)
  exact h Z _ (.ref p) x (.tup (SqT.of upd_same) (r.ext x hr))
theorem okG.newL {σ : L2.St} {Z : Wit} {G : Hh} {H : Hp} {xs : List W} {vs : List V} {Q : VK} (hr : HRep C Z G H) (h : okG C Wx σ (Rep C) Z G H (.ok (.lst xs) G) Q) (r : RepL C Z G.length H xs vs) {p : Addr} (hp : H p = none) :
    Q (.ref p) (upd H p (.lst vs)) := by
  have hs : ¬ Z.S p := fun s => hr.sd p s hp
  have x := Ext.grow hr (same_new (o := .lst vs) hp)
  exact h Z _ (.ref p) x (.lst (.inl ⟨.inl upd_same, hs⟩) (r.ext x hr))
end
end PI
end

section
set_option autoImplicit false
set_option maxHeartbeats 1000000
/-! PI2b: parameters by keywords. -/
namespace PI
open PySem L2
theorem look_zip {names : List Str} {vals : List Value} : ∀ (i : Nat) (x : Str) (v : Value), names.Nodup → names[i]? = some x → vals[i]? = some v → (names.zip vals).lookup x = some v := by
  induction names generalizing vals with
  | nil => intro i x v _ h; cases h
  | cons n ns ih =>
    intro i x v nd h1 h2
    cases vals with
    | nil => cases h2
    | cons w ws =>
      cases i with
      | zero =>
        cases h1; cases h2
        simp [List.lookup]
      | succ i =>
        have h1 : ns[i]? = some x := by simpa using h1
        have ne : (x == n) = false := beq_eq_false_iff_ne.mpr fun z => by
          subst z
          exact (List.nodup_cons.mp nd).1 (List.mem_of_getElem? h1)
        simp only [List.zip_cons_cons, List.lookup, ne]
        exact ih i x v (List.nodup_cons.mp nd).2 h1 (by simpa using h2)
theorem look_out {names : List Str} {vals : List Value} {x : Str} (h : x ∉ names.take vals.length) : (names.zip vals).lookup x = none := by
  induction names generalizing vals with
  | nil => rfl
  | cons n ns ih =>
    cases vals with
    | nil => rfl
    | cons w ws =>
      simp only [List.length_cons, List.take_succ_cons, List.mem_cons, not_or] at h
      have ne : (x == n) = false := beq_eq_false_iff_ne.mpr h.1
      simp only [List.zip_cons_cons, List.lookup, ne]
      exact ih h.2
theorem filt_all {names : List Str} {vals : List Value} {S : List (Str × Value)} (hl : names.length = vals.length) (h : ∀ (i : Nat) (x : Str) (v : Value), names[i]? = some x → vals[i]? = some v → S.lookup x = some v) :
    (names.filterMap fun n => (S.lookup n).map (n, ·)) = names.zip vals := by
  induction names generalizing vals with
  | nil => rfl
  | cons n ns ih =>
    cases vals with
    | nil => cases hl
    | cons v vs =>
      rw [List.filterMap_cons, h 0 n v rfl rfl, List.zip_cons_cons]
      show (n, v) :: _ = _
      rw [ih (by simpa using hl) fun i x v h1 h2 => h (i + 1) x v (by simpa using h1) (by simpa using h2)]
theorem step_skip : ∀ (l : List (Str × Value)) (r : List (Str × Value)) (S : List (Str × Value)), (∀ p ∈ l, (S.lookup p.1).isNone = false) →
    (forIn (l ++ r) S fun (p : Str × Value) (r : List (Str × Value)) => if (r.lookup p.1).isNone = true then (pure (ForInStep.yield (r ++ [(p.1, p.2)])) : Sem _) else pure (ForInStep.yield r)) =
      forIn r S fun (p : Str × Value) (r : List (Str × Value)) => if (r.lookup p.1).isNone = true then (pure (ForInStep.yield (r ++ [(p.1, p.2)])) : Sem _) else pure (ForInStep.yield r)
  | [], r, S, _ => rfl
  | p :: l, r, S, h => by
    have h1 := h p (List.mem_cons_self ..)
    rw [List.cons_append, List.forIn_cons, if_neg (by rw [h1]; exact Bool.false_ne_true), pure_bind]
    exact step_skip l r S fun q hq => h q (List.mem_cons_of_mem _ hq)
theorem zip_drop {α β : Type} : ∀ (k : Nat) (l : List α) (m : List β), (l.zip m).drop k = (l.drop k).zip (m.drop k)
  | 0, _, _ => rfl
  | _ + 1, [], _ => by simp
  | _ + 1, _ :: _, [] => by simp
  | k + 1, a :: l, b :: m => zip_drop k l m
theorem mem_zip_at {α β : Type} {l : List α} {m : List β} {p : α × β} (h : p ∈ l.zip m) : ∃ i : Nat, l[i]? = some p.1 ∧ m[i]? = some p.2 := by
  obtain ⟨i, hi⟩ := List.getElem?_of_mem h
  rw [List.getElem?_zip_eq_some] at hi
  exact ⟨i, hi.1, hi.2⟩
/-- the parameters as they are written: plain ones, all of a kind -/
def argB (p : Arguments) (ps : List Str) : Bool := p.posonlyargs.isEmpty && p.vararg.isNone && p.kwonlyargs.isEmpty && p.kwarg.isNone && decide (p.args.map (·.arg) = ps) && decide ps.Nodup
theorem kw_in {ps : List Str} {bad1 bad2 : Str × Value → List (Str × Value) × List (Str × Value) → Sem (ForInStep (List (Str × Value) × List (Str × Value)))} : ∀ (l : List (Str × Value)) (S : List (Str × Value)), (∀ p ∈ l, ps.contains p.1 = true) → (∀ p ∈ l, (S.lookup p.1).isSome = false) → (l.map (·.1)).Nodup →
    (forIn l (S, ([] : List (Str × Value))) fun x s => if (ps.contains x.1 || ([] : List Str).contains x.1) = true then (if (List.lookup x.1 s.1).isSome = true then bad1 x s else pure (ForInStep.yield (s.1 ++ [(x.1, x.2)], s.2))) else bad2 x s) = (pure (S ++ l, []) : Sem _)
  | [], S, _, _, _ => by simp
  | p :: l, S, h1, h2, h3 => by
    have hn := List.nodup_cons.mp (by simpa using h3 : (p.1 :: l.map (·.1)).Nodup)
    rw [List.forIn_cons, if_pos (by rw [h1 p (List.mem_cons_self ..)]; rfl), if_neg (by rw [h2 p (List.mem_cons_self ..)]; exact Bool.false_ne_true), pure_bind]
    dsimp only
    rw [kw_in l (S ++ [(p.1, p.2)]) (fun q hq => h1 q (List.mem_cons_of_mem _ hq)) (fun q hq => ?_) hn.2]
    · simp
    · have z := h2 q (List.mem_cons_of_mem _ hq)
      have ne : (q.1 == p.1) = false := beq_eq_false_iff_ne.mpr fun z => hn.1 (z ▸ List.mem_map_of_mem hq)
      rw [List.lookup_append]
      simp only [List.lookup, ne]
      cases e : List.lookup q.1 S with
      | none => rfl
      | some v => rw [e] at z; cases z
theorem bind_kw {fd : FuncData} {ps ks : List Str} {us ws vs : List Value} (h : argB fd.params ps = true) (hu : us.length ≤ ps.length) (hw : ws.length = ks.length) (hnd : ks.Nodup) (hin : ∀ x ∈ ks, x ∈ ps ∧ x ∉ ps.take us.length) (hl : ps.length = vs.length)
    (hS : ∀ (i : Nat) (x : Str) (v : Value), ps[i]? = some x → vs[i]? = some v → (ps.zip us ++ ks.zip ws).lookup x = some v) :
    ∃ k : Option (Array Value) → Sem (List (Str × Value)), bindArgs fd ⟨us, ks.zip ws⟩ = seqItems? fd.defaults >>= k ∧ ∀ o : Option (Array Value), k o = pure (ps.zip vs) := by
  simp only [argB, Bool.and_eq_true, decide_eq_true_eq, Option.isNone_iff_eq_none, List.isEmpty_iff] at h
  obtain ⟨⟨⟨⟨⟨h1, h2⟩, h3⟩, h4⟩, h5⟩, nd⟩ := h
  have some_ : ∀ x ∈ ps, ((ps.zip us ++ ks.zip ws).lookup x).isNone = false := fun x hx => by
    obtain ⟨i, hi⟩ := List.getElem?_of_mem hx
    have hlt : i < vs.length := by rw [← hl]; exact (List.getElem?_eq_some_iff.mp hi).1
    rw [hS i x vs[i] hi (List.getElem?_eq_getElem hlt)]
    rfl
  unfold bindArgs
  simp only [h1, h2, h3, h4, h5, List.map_nil, List.nil_append, List.append_nil, List.forIn_nil, pure_bind]
  rw [kw_in (ks.zip ws) (ps.zip us) (fun p hp => by
    have := (hin p.1 (List.of_mem_zip hp).1).1
    simpa using this) (fun p hp => by
    rw [look_out (hin p.1 (List.of_mem_zip hp).1).2]
    rfl) (by rw [List.map_fst_zip (by omega)]; exact hnd), pure_bind]
  refine ⟨_, rfl, fun o => ?_⟩
  generalize (o.getD #[]).toList = its
  dsimp only
  have hmiss : ∀ n, (ps.take n).filter (fun n => ((ps.zip us ++ ks.zip ws).lookup n).isNone) = [] := fun n => by
    rw [List.filter_eq_nil_iff]
    intro x hx
    rw [some_ x (List.mem_of_mem_take hx)]
    exact Bool.false_ne_true
  rw [if_neg (by simp; omega), hmiss]
  simp only [List.isEmpty_nil, Bool.not_true, Bool.false_eq_true, if_false]
  have skip : ∀ l : List (Str × Value), (∀ p ∈ l, p.1 ∈ ps) → (forIn l (ps.zip us ++ ks.zip ws) fun (p : Str × Value) (r : List (Str × Value)) => if (r.lookup p.1).isNone = true then (pure (ForInStep.yield (r ++ [(p.1, p.2)])) : Sem _) else pure (ForInStep.yield r)) = pure (ps.zip us ++ ks.zip ws) := fun l hl => by
    have := step_skip l [] (ps.zip us ++ ks.zip ws) fun p hp => some_ p.1 (hl p hp)
    rw [List.append_nil] at this
    rw [this, List.forIn_nil]
  rw [skip _ (fun p hp => List.mem_of_mem_drop (List.of_mem_zip hp).1), pure_bind]
  congr 1
  exact filt_all hl hS
theorem pick_get {α : Type} {ys : List α} : ∀ {pm : List Nat}, (∀ j ∈ pm, j < ys.length) → ∀ i : Nat, (pick pm ys)[i]? = (pm[i]?).bind fun j => ys[j]?
  | [], _, i => by simp [pick]
  | j :: pm, h, i => by
    have hj := h j (by simp)
    have e : pick (j :: pm) ys = ys[j] :: pick pm ys := by simp [pick, List.getElem?_eq_getElem hj]
    rw [e]
    cases i with
    | zero => simp [List.getElem?_eq_getElem hj]
    | succ i => simpa using pick_get (pm := pm) (fun k hk => h k (by simp [hk])) i
theorem pick_len {α : Type} {ys : List α} : ∀ {pm : List Nat}, (∀ j ∈ pm, j < ys.length) → (pick pm ys).length = pm.length
  | [], _ => rfl
  | j :: pm, h => by
    have hj := h j (by simp)
    have e : pick (j :: pm) ys = ys[j] :: pick pm ys := by simp [pick, List.getElem?_eq_getElem hj]
    rw [e, List.length_cons, List.length_cons, pick_len (pm := pm) fun k hk => h k (by simp [hk])]
/-- some positional, the others by keywords -/
theorem bind_pick {fd : FuncData} {ps ks : List Str} {us ws : List Value} {pm : List Nat} (h : argB fd.params ps = true) (hnd : ks.Nodup) (hw : ws.length = ks.length) (hpm : ∀ j ∈ pm, j < ks.length) (hps : ps.drop us.length = pick pm ks) (hu : us.length ≤ ps.length) (hall : ∀ x ∈ ks, x ∈ pick pm ks) :
    ∃ k : Option (Array Value) → Sem (List (Str × Value)), bindArgs fd ⟨us, ks.zip ws⟩ = seqItems? fd.defaults >>= k ∧ ∀ o : Option (Array Value), k o = pure (ps.zip (us ++ pick pm ws)) := by
  have nd : ps.Nodup := by
    simp only [argB, Bool.and_eq_true, decide_eq_true_eq] at h
    exact h.2
  have hpw : ∀ j ∈ pm, j < ws.length := fun j hj => by rw [hw]; exact hpm j hj
  have hlen : ps.length = us.length + pm.length := by
    have := congrArg List.length hps
    rw [List.length_drop, pick_len hpm] at this
    omega
  refine bind_kw h hu hw hnd (fun x hx => ?_) (by rw [List.length_append, pick_len hpw]; exact hlen) fun i x v h1 h2 => ?_
  · have hx := hall x hx
    rw [← hps] at hx
    refine ⟨List.mem_of_mem_drop hx, fun hz => ?_⟩
    have nd2 := nd
    rw [← List.take_append_drop us.length ps] at nd2
    exact (List.nodup_append.mp nd2).2.2 x hz x hx rfl
  · rw [List.lookup_append]
    by_cases hi : i < us.length
    · rw [List.getElem?_append_left hi] at h2
      rw [look_zip i x v nd h1 h2]
      rfl
    · rw [List.getElem?_append_right (by omega), pick_get hpw] at h2
      obtain ⟨j, hj, hv⟩ := Option.bind_eq_some_iff.mp h2
      have hx : (ps.drop us.length)[i - us.length]? = some x := by
        rw [List.getElem?_drop, ← h1]
        congr 1
        omega
      rw [hps, pick_get hpm, hj] at hx
      have hx : ks[j]? = some x := hx
      have out : (ps.zip us).lookup x = none := look_out fun hz => by
        obtain ⟨i', hi'⟩ := List.getElem?_of_mem hz
        have hlt : i' < us.length := by
          have := (List.getElem?_eq_some_iff.mp hi').1
          rw [List.length_take] at this
          omega
        rw [List.getElem?_take_of_lt hlt] at hi'
        have := L2.nodup_ix nd hi' h1
        omega
      rw [out, look_zip j x v hnd hx hv]
      rfl
end PI
end

section
set_option autoImplicit false
/-! PI3: operators, comparisons, tests, displays, subscripts. -/
namespace PI
open PySem L2
section
variable {C : Cn} {Wx : WX} {X : Cx}
theorem Rep.seq {Z : Wit} {n : Nat} {H : Hp} {xs : List W} {v : V} (r : Rep C Z n H (.lst xs) v) : ∃ a vs, v = .ref a ∧ SqL C.K H a vs ∧ RepL C Z n H xs vs := by
  cases r with
  | lst s r => exact ⟨_, _, rfl, s.sq, r⟩
theorem Rep.tupi {Z : Wit} {n : Nat} {H : Hp} {xs : List W} {v : V} (r : Rep C Z n H (.tup xs) v) : ∃ a vs, v = .ref a ∧ SqT C.K H a vs ∧ RepL C Z n H xs vs := by
  cases r with
  | tup s r => exact ⟨_, _, rfl, s, r⟩
theorem Rep.refi {Z : Wit} {n : Nat} {H : Hp} {m : Nat} {v : V} (r : Rep C Z n H (.ref m) v) : m < n ∧ v = .ref (Z.α m) := by
  cases r with
  | ref h => exact ⟨h, rfl⟩
/-- list + list, whatever they are -/
def rCatS (K : PySem.W.Frag) : R2 := fun x y H Q => ∃ l b xs zs, x = .ref l ∧ y = .ref b ∧ SqL K H l xs ∧ SqL K H b zs ∧ xs.length + zs.length ≤ sizeLine ∧ ∀ p, H p = none → Q (.ref p) (upd H p (.lst (xs ++ zs)))
theorem op_catS : OpR X (binaryOp .Add) (rCatS X.K) := by
  intro pins s σ H x y v u Q I rx ry h
  obtain ⟨l, b, xs, zs, rfl, rfl, hH, hB, hz, q⟩ := h
  cases rx
  cases ry
  obtain ⟨its, r, p1, _⟩ := I.list hH
  obtain ⟨its2, r2, p2, _⟩ := I.list hB
  have l1 := r.length
  have l2 := r2.length
  obtain ⟨⟨cls, dd, data, sl⟩, ho, hc, n, hd⟩ := p1.isList
  obtain ⟨⟨cls2, dd2, data2, sl2⟩, ho2, hc2, n2, hd2⟩ := p2.isList
  simp only at hc hd hc2 hd2
  subst hc hd hc2 hd2
  have e : its.toArray ++ its2.toArray = (its ++ its2).toArray := by simp
  refine concat_meets ⟨_, ho, rfl⟩ ⟨_, ho2, rfl⟩ noFill_list_add seq_list_add PySem.F.slot_list_add PySem.F.entry_list_add (PySem.F.args_list_add_2 _ _)
    (PyProof.Rows.list_addW l b its.toArray its2.toArray n n2 dd dd2 sl sl2 (by simp only [List.size_toArray]; omega)) ⟨ho, ho2, ?_⟩
  rw [e]
  exact ⟨.ref _, _, I.lnew (t' := s.toks) (r.append r2) (by rw [List.length_append]; omega), rfl, q _ I.fresh⟩
theorem sz1 {n : Nat} (h : n ≤ 1000000) : n ≤ sizeLine := by rw [sizeLine_eq]; omega
theorem s_add {a b : Expr} {f g : Rho → Hh → R W} {pos : Pos} (hK : X.K = C.K) (ha : PE X a (tE C Wx f)) (hb : PE X b (tE C Wx g)) :
    PE X (.BinOp a .Add b pos) (tE C Wx fun ρ G => (f ρ G).bind fun x G1 => (g ρ G1).bind fun y G2 => evOp .add x y G2) :=
  s_bin (fun _ _ => pe_op (op_add.or (op_catA.or (op_catS.or op_add_str)))) ha hb fun σ x y v u Z G H Q hr rx ry h => by
    cases x with
    | int i =>
      cases y with
      | int j => cases rx; cases ry; exact .inl ⟨i, j, rfl, rfl, okG.here hr h (.int _)⟩
      | _ => exact h.elim
    | tup xs =>
      cases y with
      | tup ys =>
        obtain ⟨a, vs, rfl, s1, r1⟩ := rx.tupi
        obtain ⟨b, us, rfl, s2, r2⟩ := ry.tupi
        obtain ⟨hz, h⟩ := okG.if_inv h
        have l1 := r1.length
        have l2 := r2.length
        refine .inr (.inl ⟨a, b, vs, us, rfl, rfl, by rw [hK]; exact s1, by rw [hK]; exact s2, sz1 (by omega), fun e => ?_, fun _ e => ?_, fun _ _ p hp => okG.newT hr h (r1.append r2) hp⟩)
        · subst e
          cases r1
          exact okG.here hr h (.tup s2 r2)
        · subst e
          cases r2
          refine okG.here hr h ?_
          rw [List.append_nil]
          exact .tup s1 r1
      | _ => exact h.elim
    | lst xs =>
      cases y with
      | lst ys =>
        obtain ⟨a, vs, rfl, s1, r1⟩ := rx.seq
        obtain ⟨b, us, rfl, s2, r2⟩ := ry.seq
        obtain ⟨hz, h⟩ := okG.if_inv h
        have l1 := r1.length
        have l2 := r2.length
        exact .inr (.inr (.inl ⟨a, b, vs, us, rfl, rfl, by rw [hK]; exact s1, by rw [hK]; exact s2, sz1 (by omega), fun p hp => okG.newL hr h (r1.append r2) hp⟩))
      | _ => exact h.elim
    | str i =>
      cases y with
      | str j =>
        obtain ⟨hz, h⟩ := okG.if_inv h
        cases rx; cases ry
        exact .inr (.inr (.inr ⟨i, j, rfl, rfl, sz1 hz, okG.here hr h (.str _)⟩))
      | _ => exact h.elim
    | _ => exact h.elim
theorem s_sub {a b : Expr} {f g : Rho → Hh → R W} {pos : Pos} (ha : PE X a (tE C Wx f)) (hb : PE X b (tE C Wx g)) :
    PE X (.BinOp a .Sub b pos) (tE C Wx fun ρ G => (f ρ G).bind fun x G1 => (g ρ G1).bind fun y G2 => evOp .sub x y G2) :=
  s_bin (fun _ _ => pe_op op_sub) ha hb fun σ x y v u Z G H Q hr rx ry h => by
    cases x with
    | int i =>
      cases y with
      | int j => cases rx; cases ry; exact ⟨i, j, rfl, rfl, okG.here hr h (.int _)⟩
      | _ => exact h.elim
    | _ => exact h.elim
theorem s_mul {a b : Expr} {f g : Rho → Hh → R W} {pos : Pos} (ha : PE X a (tE C Wx f)) (hb : PE X b (tE C Wx g)) :
    PE X (.BinOp a .Mult b pos) (tE C Wx fun ρ G => (f ρ G).bind fun x G1 => (g ρ G1).bind fun y G2 => evOp .mul x y G2) :=
  s_bin (fun _ _ => pe_op op_mul) ha hb fun σ x y v u Z G H Q hr rx ry h => by
    cases x with
    | int i =>
      cases y with
      | int j =>
        obtain ⟨hz, h⟩ := okG.if_inv h
        cases rx; cases ry
        exact ⟨i, j, rfl, rfl, by unfold CMul; omega, okG.here hr h (.int _)⟩
      | _ => exact h.elim
    | _ => exact h.elim
theorem s_fdiv {a b : Expr} {f g : Rho → Hh → R W} {pos : Pos} (ha : PE X a (tE C Wx f)) (hb : PE X b (tE C Wx g)) :
    PE X (.BinOp a .FloorDiv b pos) (tE C Wx fun ρ G => (f ρ G).bind fun x G1 => (g ρ G1).bind fun y G2 => evOp .fdiv x y G2) :=
  s_bin (fun _ _ => pe_op op_fdiv) ha hb fun σ x y v u Z G H Q hr rx ry h => by
    cases x with
    | int i =>
      cases y with
      | int j =>
        obtain ⟨hz, h⟩ := okG.if_inv h
        cases rx; cases ry
        exact ⟨i, j, rfl, rfl, hz, okG.here hr h (.int _)⟩
      | _ => exact h.elim
    | _ => exact h.elim
theorem s_mod {a b : Expr} {f g : Rho → Hh → R W} {pos : Pos} (ha : PE X a (tE C Wx f)) (hb : PE X b (tE C Wx g)) :
    PE X (.BinOp a .Mod b pos) (tE C Wx fun ρ G => (f ρ G).bind fun x G1 => (g ρ G1).bind fun y G2 => evOp .mod x y G2) :=
  s_bin (fun _ _ => pe_op op_mod) ha hb fun σ x y v u Z G H Q hr rx ry h => by
    cases x with
    | int i =>
      cases y with
      | int j =>
        obtain ⟨hz, h⟩ := okG.if_inv h
        cases rx; cases ry
        exact ⟨i, j, rfl, rfl, hz, okG.here hr h (.int _)⟩
      | _ => exact h.elim
    | _ => exact h.elim
theorem s_pow {a b : Expr} {f g : Rho → Hh → R W} {pos : Pos} (ha : PE X a (tE C Wx f)) (hb : PE X b (tE C Wx g)) :
    PE X (.BinOp a .Pow b pos) (tE C Wx fun ρ G => (f ρ G).bind fun x G1 => (g ρ G1).bind fun y G2 => evOp .pow x y G2) :=
  s_bin (fun _ _ => pe_op op_pow) ha hb fun σ x y v u Z G H Q hr rx ry h => by
    cases x with
    | int i =>
      cases y with
      | int j =>
        obtain ⟨hz, h⟩ := okG.if_inv h
        cases rx; cases ry
        exact ⟨i, j, rfl, rfl, ⟨hz.1, hz.2.1, by omega⟩, okG.here hr h (.int _)⟩
      | _ => exact h.elim
    | _ => exact h.elim
theorem s_neg {a : Expr} {f : Rho → Hh → R W} {pos : Pos} (ha : PE X a (tE C Wx f)) :
    PE X (.UnaryOp .USub a pos) (tE C Wx fun ρ G => (f ρ G).bind fun x G1 => match x with
      | .int i => .ok (.int (-i)) G1
      | _ => .bad) :=
  PE.mono (pe_un un_neg ha) fun σ H Q ⟨ρ, Z, G, st, hr, h⟩ => tG_bind st hr h fun x v Z1 G1 H1 m h1 => by
    cases x with
    | int i => cases m.rep; exact ⟨i, rfl, okG.here m.hr h1 (.int _)⟩
    | _ => exact h1.elim

/-! ### comparisons -/
mutual
theorem toD_dp {Z : Wit} {G : Hh} {H : Hp} (hr : HRep C Z G H) {n : Nat} : ∀ {w : W} {v : V} {d : PyData}, Rep C Z n H w v → toD G w = some d → Dp C.K H v d
  | _, _, _, .non, e => by simp only [toD] at e; cases e; exact .non
  | _, _, _, .bl b, e => by simp only [toD] at e; cases e; exact .bl b
  | _, _, _, .int b, e => by simp only [toD] at e; cases e; exact .int b
  | _, _, _, .str b, e => by simp only [toD] at e; cases e; exact .str b
  | _, _, _, .tup s r, e => by
    simp only [toD, Option.map_eq_some_iff] at e
    obtain ⟨ds, e, rfl⟩ := e
    exact .tup s (toDs_dp hr r e)
  | _, _, _, .lst s r, e => by
    simp only [toD, Option.map_eq_some_iff] at e
    obtain ⟨ds, e, rfl⟩ := e
    exact .lst s.sq (toDs_dp hr r e)
  | _, _, _, .ref (m := m) hm, e => by
    simp only [toD] at e
    cases q : G[m]? with
    | none => rw [q] at e; cases e
    | some c =>
      rw [q] at e
      cases c with
      | lst xs =>
        cases xs with
        | nil =>
          cases e
          obtain ⟨vs, q1, q2, _⟩ := hr.cells m _ q
          cases q2
          exact .lst (SqL.of q1) .nil
        | cons _ _ => cases e
      | _ => cases e
  | _, _, _, .fn _ _, e => by simp [toD] at e
  | _, _, _, .lam _ _ _, e => by simp [toD] at e
theorem toDs_dp {Z : Wit} {G : Hh} {H : Hp} (hr : HRep C Z G H) {n : Nat} : ∀ {w : List W} {v : List V} {d : List PyData}, RepL C Z n H w v → toDs G w = some d → DpAll C.K H v d
  | _, _, _, .nil, e => by simp only [toDs] at e; cases e; exact .nil
  | _, _, _, .cons (x := x) (xs := xs) a b, e => by
    simp only [toDs] at e
    cases e1 : toD G x with
    | none => rw [e1] at e; simp at e
    | some d =>
      cases e2 : toDs G xs with
      | none => rw [e1, e2] at e; simp at e
      | some ds =>
        rw [e1, e2] at e
        cases e
        exact .cons (toD_dp hr a e1) (toDs_dp hr b e2)
end
theorem toDr_dp {Z : Wit} {G : Hh} {H : Hp} (hr : HRep C Z G H) {w : W} {v : V} {d : PyData} (r : Rep C Z G.length H w v) (e : toDr G w = some d) : Dp C.K H v d := by
  cases w with
  | ref m =>
    obtain ⟨hm, rfl⟩ := r.refi
    simp only [toDr] at e
    cases q : G[m]? with
    | none => rw [q] at e; cases e
    | some c =>
      rw [q] at e
      cases c with
      | lst xs =>
        simp only [Option.map_eq_some_iff] at e
        obtain ⟨ds, e, rfl⟩ := e
        obtain ⟨vs, q1, q2, _⟩ := hr.cells m _ q
        exact .lst (SqL.of q1) (toDs_dp hr q2 e)
      | _ => cases e
  | _ => exact toD_dp hr r e
theorem seqOf_sq {Z : Wit} {G : Hh} {H : Hp} (hr : HRep C Z G H) {w : W} {v : V} {xs : List W} (r : Rep C Z G.length H w v) (e : seqOf G w = some xs) : ∃ a vs, v = .ref a ∧ (SqL C.K H a vs ∨ SqT C.K H a vs) ∧ RepL C Z G.length H xs vs := by
  cases w with
  | tup ys =>
    simp only [seqOf] at e; cases e
    obtain ⟨a, vs, h1, h2, h3⟩ := r.tupi
    exact ⟨a, vs, h1, .inr h2, h3⟩
  | lst ys =>
    simp only [seqOf] at e; cases e
    obtain ⟨a, vs, h1, h2, h3⟩ := r.seq
    exact ⟨a, vs, h1, .inl h2, h3⟩
  | ref m =>
    obtain ⟨hm, rfl⟩ := r.refi
    simp only [seqOf] at e
    cases q : G[m]? with
    | none => rw [q] at e; cases e
    | some c =>
      rw [q] at e
      cases c with
      | lst ys =>
        cases e
        obtain ⟨vs, q1, q2, _⟩ := hr.cells m _ q
        exact ⟨_, vs, rfl, .inl (SqL.of q1), q2⟩
      | _ => cases e
  | _ => simp [seqOf] at e
theorem flat_rep {Z : Wit} {n : Nat} {H : Hp} {w : W} {v : V} (r : Rep C Z n H w v) (f : flatW w = true) : flatV v = true := by
  cases r <;> first | rfl | (simp [flatW] at f)
theorem flat_reps {Z : Wit} {n : Nat} {H : Hp} : ∀ {w : List W} {v : List V}, RepL C Z n H w v → w.all flatW = true → v.all flatV = true
  | _, _, .nil, _ => rfl
  | _, _, .cons a b, f => by
    rw [List.all_cons, Bool.and_eq_true] at f
    rw [List.all_cons, flat_rep a f.1, flat_reps b f.2]
    rfl
theorem eqW_rep {Z : Wit} {n : Nat} {H : Hp} {w u : W} {v y : V} (r : Rep C Z n H w v) (s : Rep C Z n H u y) (f : flatW w = true) (g : flatW u = true) : eqW w u = eqV v y := by
  cases r <;> first | (simp [flatW] at f; done) | (cases s <;> first | rfl | (simp [flatW] at g; done))
theorem inW_rep {Z : Wit} {n : Nat} {H : Hp} {x : W} {v : V} (r : Rep C Z n H x v) (f : flatW x = true) : ∀ {w : List W} {vs : List V}, RepL C Z n H w vs → w.all flatW = true → inW x w = inV v vs
  | _, _, .nil, _ => rfl
  | _, _, .cons a b, g => by
    rw [List.all_cons, Bool.and_eq_true] at g
    have ih := inW_rep r f b g.2
    unfold inW at ih ⊢
    unfold inV at ih ⊢
    rw [List.any_cons, List.any_cons, eqW_rep a r g.1 f, ih]
theorem isNon_rep {Z : Wit} {n : Nat} {H : Hp} {x : W} {v : V} (r : Rep C Z n H x v) : isNon x = decide (v = .non) := by
  cases r <;> simp [isNon]
/-- the comparison operators of the text -/
def cmpOf : COp → CmpOp
  | .eq => .Eq | .ne => .NotEq | .lt => .Lt | .le => .LtE | .gt => .Gt | .ge => .GtE | .isIn => .In | .notIn => .NotIn | .isN => .Is | .notN => .IsNot
/-- what a comparison by values asks -/
def rCmp (C : Cn) (o : COp) : R2 := fun x y H Q => ∃ (w u : W) (Z : Wit) (G : Hh) (b : Bool), Rep C Z G.length H w x ∧ Rep C Z G.length H u y ∧ HRep C Z G H ∧ evCmp o w u G = some b ∧ Q (.bl b) H
theorem strP_inv {C : Cn} {Z : Wit} {n : Nat} {H : Hp} {w z : W} {x y : V} {b : Bool} (rw1 : Rep C Z n H w x) (rz : Rep C Z n H z y) (e : strP w z = some b) : ∃ a c, x = .str a ∧ y = .str c ∧ b = decide (V.str a = V.str c) := by
  cases rw1 <;> first | (cases e; done) | (cases rz <;> first | (cases e; done) | (cases e; exact ⟨_, _, rfl, rfl, decide_eq_decide.mpr (by simp)⟩))
theorem op_cmp (hK : X.K = C.K) (hu : X.A.units + 64 < cLine) (o : COp) : OpR X (compareOp (cmpOf o)) (rCmp C o) := by
  intro pins s σ H x y v u Q I rx ry h
  obtain ⟨w, z, Z, G, b, rw1, rz, hr, e, q⟩ := h
  cases o with
  | eq =>
    simp only [evCmp, evEq] at e
    cases es : strP w z with
    | some c =>
      rw [es] at e
      cases e
      obtain ⟨a1, a2, rfl, rfl, rfl⟩ := strP_inv rw1 rz es
      exact op_eq pins s σ H _ _ v u Q I rx ry ⟨rfl, q⟩
    | none =>
    rw [es] at e
    simp only [evEqD] at e
    cases e1 : toDr G w with
    | none => rw [e1] at e; cases e
    | some d =>
      cases e2 : toDr G z with
      | none => rw [e1, e2] at e; cases e
      | some d2 =>
        rw [e1, e2] at e
        simp only at e
        by_cases c : PySem.SeqAt.shaped d = true ∧ PySem.SeqAt.shaped d2 = true
        · rw [if_pos c] at e
          cases e
          exact op_eqD hu pins s σ H x y v u Q I rx ry ⟨d, d2, by rw [hK]; exact toDr_dp hr rw1 e1, by rw [hK]; exact toDr_dp hr rz e2, c.1, c.2, q⟩
        · rw [if_neg c] at e; cases e
  | ne =>
    simp only [evCmp, evEq] at e
    cases es : strP w z with
    | some c =>
      rw [es] at e
      cases e
      obtain ⟨a1, a2, rfl, rfl, rfl⟩ := strP_inv rw1 rz es
      exact op_ne pins s σ H _ _ v u Q I rx ry ⟨rfl, q⟩
    | none =>
    rw [es] at e
    simp only [evEqD] at e
    cases e1 : toDr G w with
    | none => rw [e1] at e; cases e
    | some d =>
      cases e2 : toDr G z with
      | none => rw [e1, e2] at e; cases e
      | some d2 =>
        rw [e1, e2] at e
        simp only at e
        by_cases c : PySem.SeqAt.shaped d = true ∧ PySem.SeqAt.shaped d2 = true
        · rw [if_pos c] at e
          cases e
          exact op_neD hu pins s σ H x y v u Q I rx ry ⟨d, d2, by rw [hK]; exact toDr_dp hr rw1 e1, by rw [hK]; exact toDr_dp hr rz e2, c.1, c.2, q⟩
        · rw [if_neg c] at e; cases e
  | lt =>
    cases rw1 <;> first | (cases e; done) | (cases rz <;> first | (cases e; done) | (cases e; exact op_lt pins s σ H _ _ v u Q I rx ry ⟨_, _, rfl, rfl, q⟩))
  | le =>
    cases rw1 <;> first | (cases e; done) | (cases rz <;> first | (cases e; done) | (cases e; exact op_le pins s σ H _ _ v u Q I rx ry ⟨_, _, rfl, rfl, q⟩))
  | gt =>
    cases rw1 <;> first | (cases e; done) | (cases rz <;> first | (cases e; done) | (cases e; exact op_gt pins s σ H _ _ v u Q I rx ry ⟨_, _, rfl, rfl, q⟩))
  | ge =>
    cases rw1 <;> first | (cases e; done) | (cases rz <;> first | (cases e; done) | (cases e; exact op_ge pins s σ H _ _ v u Q I rx ry ⟨_, _, rfl, rfl, q⟩))
  | isIn =>
    simp only [evCmp] at e
    cases e1 : seqOf G z with
    | none => rw [e1] at e; cases e
    | some ys =>
      rw [e1] at e
      simp only at e
      by_cases c : flatW w = true ∧ ys.all flatW = true
      · rw [if_pos c] at e
        cases e
        obtain ⟨a, vs, rfl, sq, rs⟩ := seqOf_sq hr rz e1
        refine op_in_seq pins s σ H x _ v u Q I rx ry ⟨a, vs, rfl, by rw [hK]; exact sq, flat_rep rw1 c.1, flat_reps rs c.2, ?_⟩
        rw [inW_rep rw1 c.1 rs c.2] at q
        exact q
      · rw [if_neg c] at e; cases e
  | notIn =>
    simp only [evCmp] at e
    cases e1 : seqOf G z with
    | none => rw [e1] at e; cases e
    | some ys =>
      rw [e1] at e
      simp only at e
      by_cases c : flatW w = true ∧ ys.all flatW = true
      · rw [if_pos c] at e
        cases e
        obtain ⟨a, vs, rfl, sq, rs⟩ := seqOf_sq hr rz e1
        refine op_notIn_seq pins s σ H x _ v u Q I rx ry ⟨a, vs, rfl, by rw [hK]; exact sq, flat_rep rw1 c.1, flat_reps rs c.2, ?_⟩
        rw [inW_rep rw1 c.1 rs c.2] at q
        exact q
      · rw [if_neg c] at e; cases e
  | isN =>
    simp only [evCmp] at e
    by_cases c : isNon z = true
    · rw [if_pos c] at e
      cases e
      rw [isNon_rep rw1] at q
      have e2 : y = .non := by rw [isNon_rep rz] at c; exact of_decide_eq_true c
      exact op_isN pins s σ H x y v u Q I rx ry ⟨e2, q⟩
    · rw [if_neg c] at e; cases e
  | notN =>
    simp only [evCmp] at e
    by_cases c : isNon z = true
    · rw [if_pos c] at e
      cases e
      rw [isNon_rep rw1] at q
      have e2 : y = .non := by rw [isNon_rep rz] at c; exact of_decide_eq_true c
      exact op_notN pins s σ H x y v u Q I rx ry ⟨e2, q⟩
    · rw [if_neg c] at e; cases e
theorem s_cmp {a b : Expr} {f g : Rho → Hh → R W} {pos : Pos} (hK : X.K = C.K) (hu : X.A.units + 64 < cLine) (o : COp) (hm : behindInMarks (cmpOf o) b = false) (ha : PE X a (tE C Wx f)) (hb : PE X b (tE C Wx g)) :
    PE X (.Compare a [cmpOf o] [b] pos) (tE C Wx fun ρ G => (f ρ G).bind fun x G1 => (g ρ G1).bind fun y G2 => ofO ((evCmp o x y G2).map .bl) G2) :=
  s_bin (r := rCmp C o) (fun _ _ ha hb => pe_cmpR (op_cmp hK hu o) ha hb hm) ha hb fun σ x y v u Z G H Q hr rx ry h => by
    obtain ⟨z, e, h⟩ := okG.ofO_inv h
    cases e1 : evCmp o x y G with
    | none => rw [e1] at e; cases e
    | some b =>
      rw [e1] at e
      cases e
      exact ⟨x, y, Z, G, b, rx, ry, hr, e1, okG.here hr h (.bl b)⟩
theorem s_chain {a b c : Expr} {f g k : Rho → Hh → R W} {pos : Pos} (hK : X.K = C.K) (hu : X.A.units + 64 < cLine) (o o' : COp) (hm' : behindInMarks (cmpOf o') c = false)
    (ha : PE X a (tE C Wx f)) (hb : PE X b (tE C Wx g)) (hc : PE X c (tE C Wx k)) :
    PE X (.Compare a [cmpOf o, cmpOf o'] [b, c] pos) (tE C Wx fun ρ G => (f ρ G).bind fun x G1 => (g ρ G1).bind fun y G2 => (ofO (evCmp o x y G2) G2).bind fun q G3 =>
      if q then (k ρ G3).bind fun z G4 => ofO ((evCmp o' y z G4).map .bl) G4 else .ok (.bl false) G3) :=
  PE.mono (pe_chain (op_cmp hK hu o) (op_cmp hK hu o') ha hb hc hm') fun σ H Q ⟨ρ, Z, G, st, hr, h⟩ =>
    tG_bind st hr h fun x v Z1 G1 H1 m h1 => tG_bind m.st m.hr h1 fun y u Z2 G2 H2 m2 h2 => by
      cases e1 : evCmp o x y G2 with
      | none => rw [e1] at h2; exact h2.elim
      | some b =>
        rw [e1] at h2
        refine ⟨x, y, Z2, G2, b, m.rep.ext m2.x m.hr, m2.rep, m2.hr, e1, b, rfl, ?_⟩
        cases b with
        | false => exact okG.here m2.hr h2 (.bl false)
        | true =>
          refine tG_bind m2.st m2.hr h2 fun z t Z3 G3 H3 m3 h3 => ?_
          obtain ⟨w, e, h3⟩ := okG.ofO_inv h3
          cases e2 : evCmp o' y z G3 with
          | none => rw [e2] at e; cases e
          | some b2 =>
            rw [e2] at e
            cases e
            exact ⟨y, z, Z3, G3, b2, m2.rep.ext m3.x m2.hr, m3.rep, m3.hr, e2, okG.here m3.hr h3 (.bl b2)⟩
end
end PI
end

section
set_option autoImplicit false
/-! PI4: truth, displays, subscripts. -/
namespace PI
open PySem L2
section
variable {C : Cn} {Wx : WX} {X : Cx}
/-! ### and, or, not as values -/
theorem s_andV {a b : Expr} {rest : List Expr} {f g : Rho → Hh → R W} {pos : Pos} (ha : PE X a (tE C Wx f)) (hb : PE X (.BoolOp .And (b :: rest) pos) (tE C Wx g)) :
    PE X (.BoolOp .And (a :: b :: rest) pos) (tE C Wx fun ρ G => (f ρ G).bind fun x G1 => match x with
      | .bl c => if c then g ρ G1 else .ok (.bl false) G1
      | _ => .bad) :=
  PE.mono (pe_and ha hb) fun σ H Q ⟨ρ, Z, G, st, hr, h⟩ => tG_bind st hr h fun x v Z1 G1 H1 m h1 => by
    cases x with
    | bl c =>
      cases m.rep
      refine ⟨c, rfl, ?_⟩
      cases c with
      | true => exact tG_last m.st m.hr h1
      | false => exact okG.here m.hr h1 (.bl false)
    | _ => exact h1.elim
theorem s_orV {a b : Expr} {rest : List Expr} {f g : Rho → Hh → R W} {pos : Pos} (ha : PE X a (tE C Wx f)) (hb : PE X (.BoolOp .Or (b :: rest) pos) (tE C Wx g)) :
    PE X (.BoolOp .Or (a :: b :: rest) pos) (tE C Wx fun ρ G => (f ρ G).bind fun x G1 => match x with
      | .bl c => if c then .ok (.bl true) G1 else g ρ G1
      | _ => .bad) :=
  PE.mono (pe_or ha hb) fun σ H Q ⟨ρ, Z, G, st, hr, h⟩ => tG_bind st hr h fun x v Z1 G1 H1 m h1 => by
    cases x with
    | bl c =>
      cases m.rep
      refine ⟨c, rfl, ?_⟩
      cases c with
      | true => exact okG.here m.hr h1 (.bl true)
      | false => exact tG_last m.st m.hr h1
    | _ => exact h1.elim
theorem s_notV {a : Expr} {f : Rho → Hh → R W} {pos : Pos} (ha : PE X a (tE C Wx f)) :
    PE X (.UnaryOp .Not a pos) (tE C Wx fun ρ G => (f ρ G).bind fun x G1 => match x with
      | .bl c => .ok (.bl (!c)) G1
      | _ => .bad) :=
  PE.mono (pe_not ha) fun σ H Q ⟨ρ, Z, G, st, hr, h⟩ => tG_bind st hr h fun x v Z1 G1 H1 m h1 => by
    cases x with
    | bl c => cases m.rep; exact ⟨c, rfl, okG.here m.hr h1 (.bl _)⟩
    | _ => exact h1.elim
/-! ### tests -/
theorem s_tand {a b : Expr} {rest : List Expr} {f g : Rho → Hh → R Bool} {pos : Pos} (ha : PT X a (tT C Wx f)) (hb : PW X (.BoolOp .And (b :: rest) pos) (tT C Wx g)) :
    PW X (.BoolOp .And (a :: b :: rest) pos) (tT C Wx fun ρ G => (f ρ G).bind fun c G1 => if c then g ρ G1 else .ok false G1) :=
  PW.mono (pw_and ha hb) fun σ H Q ⟨ρ, Z, G, st, hr, h⟩ => tG_bind st hr h fun c d Z1 G1 H1 m h1 => by
    cases (show c = d from m.rep)
    cases c with
    | true => exact tG_last m.st m.hr h1
    | false => exact okG.here (rel := relB) m.hr h1 rfl
theorem s_tor {a b : Expr} {rest : List Expr} {f g : Rho → Hh → R Bool} {pos : Pos} (ha : PT X a (tT C Wx f)) (hb : PW X (.BoolOp .Or (b :: rest) pos) (tT C Wx g)) :
    PW X (.BoolOp .Or (a :: b :: rest) pos) (tT C Wx fun ρ G => (f ρ G).bind fun c G1 => if c then .ok true G1 else g ρ G1) :=
  PW.mono (pw_or ha hb) fun σ H Q ⟨ρ, Z, G, st, hr, h⟩ => tG_bind st hr h fun c d Z1 G1 H1 m h1 => by
    cases (show c = d from m.rep)
    cases c with
    | true => exact okG.here (rel := relB) m.hr h1 rfl
    | false => exact tG_last m.st m.hr h1
theorem s_tnot {a : Expr} {f : Rho → Hh → R Bool} {pos : Pos} (ha : PT X a (tT C Wx f)) : PT X (.UnaryOp .Not a pos) (tT C Wx fun ρ G => (f ρ G).bind fun c G1 => .ok (!c) G1) :=
  PT.mono (pt_not ha) fun σ H Q ⟨ρ, Z, G, st, hr, h⟩ => tG_bind st hr h fun c d Z1 G1 H1 m h1 => by
    cases (show c = d from m.rep)
    exact okG.here (rel := relB) m.hr h1 rfl
/-- a bool as a test -/
def asB (x : W) (G1 : Hh) : R Bool := match x with
  | .bl c => .ok c G1
  | _ => .bad
theorem tB_of {f : Rho → Hh → R W} {σ : L2.St} {H : Hp} {Q : Bool → Hp → Prop} (h : tT C Wx (fun ρ G => (f ρ G).bind asB) σ H Q) : tE C Wx f σ H fun x H1 => ∃ c, x = .bl c ∧ Q c H1 := by
  obtain ⟨ρ, Z, G, st, hr, h⟩ := h
  refine tG_bind st hr h fun x v Z1 G1 H1 m h1 => ?_
  cases x with
  | bl c => cases m.rep; exact ⟨c, rfl, okG.here (rel := relB) m.hr h1 rfl⟩
  | _ => exact h1.elim
theorem s_tval {e : Expr} {f : Rho → Hh → R W} (h : PE X e (tE C Wx f)) (he : ∀ whole, isTrue e X.env whole = (do let v ← whole; standAt e.pos; holding [v] (truthy v))) : PT X e (tT C Wx fun ρ G => (f ρ G).bind asB) :=
  PT.mono (pt_val h he) fun _ _ _ h => tB_of h
theorem s_tcmp {a b : Expr} {f g : Rho → Hh → R W} {pos : Pos} (hK : X.K = C.K) (hu : X.A.units + 64 < cLine) (o : COp) (hm : behindInMarks (cmpOf o) b = false) (ha : PE X a (tE C Wx f)) (hb : PE X b (tE C Wx g)) :
    PT X (.Compare a [cmpOf o] [b] pos) (tT C Wx fun ρ G => ((f ρ G).bind fun x G1 => (g ρ G1).bind fun y G2 => ofO ((evCmp o x y G2).map .bl) G2).bind asB) :=
  PT.mono (pt_cmpR (op_cmp hK hu o) ha hb hm) fun σ H Q ⟨ρ, Z, G, st, hr, h⟩ => by
    have h : okG C Wx σ relB Z G H ((f ρ G).bind fun x G1 => (g ρ G1).bind fun y G2 => (ofO ((evCmp o x y G2).map .bl) G2).bind asB) Q := by
      cases e1 : f ρ G with
      | ok x G1 =>
        cases e2 : g ρ G1 with
        | ok y G2 => simpa [e1, e2, R.bind] using h
        | ex c p G2 => simpa [e1, e2, R.bind] using h
        | bad => simpa [e1, e2, R.bind] using h
      | ex c p G1 => simpa [e1, R.bind] using h
      | bad => simpa [e1, R.bind] using h
    refine tG_bind st hr h fun x v Z1 G1 H1 m h1 => tG_bind m.st m.hr h1 fun y u Z2 G2 H2 m2 h2 => ?_
    cases e1 : evCmp o x y G2 with
    | none => rw [e1] at h2; exact h2.elim
    | some b =>
      rw [e1] at h2
      exact ⟨x, y, Z2, G2, b, m.rep.ext m2.x m.hr, m2.rep, m2.hr, e1, b, rfl, okG.here (rel := relB) m2.hr h2 rfl⟩
theorem s_tchain {a b c : Expr} {f g k : Rho → Hh → R W} {pos : Pos} (hK : X.K = C.K) (hu : X.A.units + 64 < cLine) (o o' : COp) (hm' : behindInMarks (cmpOf o') c = false)
    (ha : PE X a (tE C Wx f)) (hb : PE X b (tE C Wx g)) (hc : PE X c (tE C Wx k)) :
    PT X (.Compare a [cmpOf o, cmpOf o'] [b, c] pos) (tT C Wx fun ρ G => ((f ρ G).bind fun x G1 => (g ρ G1).bind fun y G2 => (ofO (evCmp o x y G2) G2).bind fun q G3 =>
      if q then (k ρ G3).bind fun z G4 => ofO ((evCmp o' y z G4).map .bl) G4 else .ok (.bl false) G3).bind asB) :=
  PT.mono (pt_chain (op_cmp hK hu o) (op_cmp hK hu o') ha hb hc hm') fun σ H Q ⟨ρ, Z, G, st, hr, h⟩ => by
    have h : okG C Wx σ relB Z G H ((f ρ G).bind fun x G1 => (g ρ G1).bind fun y G2 => (ofO (evCmp o x y G2) G2).bind fun q G3 =>
      if q then (k ρ G3).bind fun z G4 => (ofO ((evCmp o' y z G4).map .bl) G4).bind asB else .ok false G3) Q := by
      cases e1 : f ρ G with
      | ok x G1 =>
        cases e2 : g ρ G1 with
        | ok y G2 =>
          cases e3 : evCmp o x y G2 with
          | none => simpa [e1, e2, e3, R.bind, ofO] using h
          | some q =>
            cases q with
            | false => simpa [e1, e2, e3, R.bind, ofO, asB] using h
            | true =>
              cases e4 : k ρ G2 <;> simpa [e1, e2, e3, e4, R.bind, ofO, asB] using h
        | ex c p G2 => simpa [e1, e2, R.bind] using h
        | bad => simpa [e1, e2, R.bind] using h
      | ex c p G1 => simpa [e1, R.bind] using h
      | bad => simpa [e1, R.bind] using h
    refine tG_bind st hr h fun x v Z1 G1 H1 m h1 => tG_bind m.st m.hr h1 fun y u Z2 G2 H2 m2 h2 => ?_
    cases e1 : evCmp o x y G2 with
    | none => rw [e1] at h2; exact h2.elim
    | some b =>
      rw [e1] at h2
      refine ⟨x, y, Z2, G2, b, m.rep.ext m2.x m.hr, m2.rep, m2.hr, e1, b, rfl, ?_⟩
      cases b with
      | false => exact ⟨false, rfl, okG.here (rel := relB) m2.hr h2 rfl⟩
      | true =>
        refine tG_bind m2.st m2.hr h2 fun z t Z3 G3 H3 m3 h3 => ?_
        cases e2 : evCmp o' y z G3 with
        | none => rw [e2] at h3; exact h3.elim
        | some b2 =>
          rw [e2] at h3
          exact ⟨y, z, Z3, G3, b2, m2.rep.ext m3.x m2.hr, m3.rep, m3.hr, e2, b2, rfl, okG.here (rel := relB) m3.hr h3 rfl⟩
theorem s_ttru {e : Expr} {f : Rho → Hh → R W} (hK : X.K = C.K) (h : PE X e (tE C Wx f)) (he : ∀ whole, isTrue e X.env whole = (do let v ← whole; standAt e.pos; holding [v] (truthy v))) :
    PT X e (tT C Wx fun ρ G => (f ρ G).bind fun x G1 => ofO (evTru x G1) G1) :=
  PT.mono (pt_truth h he) fun σ H Q ⟨ρ, Z, G, st, hr, h⟩ => tG_bind st hr h fun x v Z1 G1 H1 m h1 => by
    obtain ⟨b, e, h1⟩ := okG.ofO_inv h1
    refine ⟨b, ?_, okG.here (rel := relB) m.hr h1 rfl⟩
    have sq : ∀ {w : W} {v : V}, Rep C Z1 G1.length H1 w v → ((seqOf G1 w).map fun xs => !xs.isEmpty) = some b → TruV X.K v H1 b := fun {w v} r e => by
      obtain ⟨xs, e1, e2⟩ := Option.map_eq_some_iff.mp e
      obtain ⟨a, vs, rfl, s, rl⟩ := seqOf_sq m.hr r e1
      have em : xs.isEmpty = vs.isEmpty := by cases rl <;> rfl
      rw [em] at e2
      rcases s with s | s
      · exact .inl ⟨vs, by rw [hK]; exact s, e2.symm⟩
      · exact .inr (.inl ⟨vs, by rw [hK]; exact s, e2.symm⟩)
    cases x with
    | non => cases m.rep; simp only [evTru] at e; cases e; rfl
    | bl c => cases m.rep; simp only [evTru] at e; cases e; rfl
    | int i => cases m.rep; simp only [evTru] at e; cases e; rfl
    | str y =>
      cases m.rep
      simp only [evTru] at e
      by_cases c : y.length ≤ 1000000
      · rw [if_pos c] at e; cases e; exact ⟨sz1 c, rfl⟩
      · rw [if_neg c] at e; cases e
    | tup xs => exact sq m.rep e
    | lst xs => exact sq m.rep e
    | ref n => exact sq m.rep e
    | fn i => simp [evTru, seqOf] at e
    | lam i => simp [evTru, seqOf] at e
theorem s_ife {t a b : Expr} {k : Rho → Hh → R Bool} {f g : Rho → Hh → R W} {pos : Pos} (ht : PT X t (tT C Wx k)) (ha : PE X a (tE C Wx f)) (hb : PE X b (tE C Wx g)) :
    PE X (.IfExp t a b pos) (tE C Wx fun ρ G => (k ρ G).bind fun c G1 => if c then f ρ G1 else g ρ G1) :=
  PE.mono (pe_ifExp ht ha hb) fun σ H Q ⟨ρ, Z, G, st, hr, h⟩ => tG_bind st hr h fun c d Z1 G1 H1 m h1 => by
    cases (show c = d from m.rep)
    cases c with
    | true => exact tG_last m.st m.hr h1
    | false => exact tG_last m.st m.hr h1

/-! ### lists of arguments, displays -/
def isStar : Expr → Bool
  | .Starred _ _ => true
  | _ => false
theorem star_plain {e : Expr} {es : List Expr} {env : Env} (h : isStar e = false) : starEach (e :: es) env = (false, eval e env) :: starEach es env := by
  cases e <;> first | rfl | (simp [isStar] at h)
theorem s_anil : PA X [] (tA C Wx fun _ G => .ok [] G) :=
  PA.mono pa_nil fun σ H Q ⟨ρ, Z, G, st, hr, h⟩ => okG.here (rel := RepL C) hr h .nil
theorem s_acons {e : Expr} {es : List Expr} {f : Rho → Hh → R W} {g : Rho → Hh → R (List W)} (hs : isStar e = false) (he : PE X e (tE C Wx f)) (hes : PA X es (tA C Wx g)) :
    PA X (e :: es) (tA C Wx fun ρ G => (f ρ G).bind fun x G1 => (g ρ G1).bind fun xs G2 => .ok (x :: xs) G2) :=
  PA.mono (pa_cons he hes (star_plain hs)) fun σ H Q ⟨ρ, Z, G, st, hr, h⟩ => tG_bind st hr h fun x v Z1 G1 H1 m h1 => tG_bind m.st m.hr h1 fun xs vs Z2 G2 H2 m2 h2 =>
    okG.here (rel := RepL C) m2.hr h2 (.cons (m.rep.ext m2.x m.hr) m2.rep)
theorem s_astar {e : Expr} {es : List Expr} {p : Pos} {f : Rho → Hh → R W} {g : Rho → Hh → R (List W)} (hK : X.K = C.K) (he : PE X e (tE C Wx f)) (hes : PA X es (tA C Wx g)) :
    PA X (.Starred e p :: es) (tA C Wx fun ρ G => (f ρ G).bind fun x G1 => match seqOf G1 x with
      | some xs => (g ρ G1).bind fun ys G2 => .ok (xs ++ ys) G2
      | none => .bad) :=
  PA.mono (StX.pa_star he hes) fun σ H Q ⟨ρ, Z, G, st, hr, h⟩ => tG_bind st hr h fun x v Z1 G1 H1 m h1 => by
    cases e1 : seqOf G1 x with
    | none => rw [e1] at h1; exact h1.elim
    | some xs =>
      rw [e1] at h1
      obtain ⟨a, vs, rfl, s, rl⟩ := seqOf_sq m.hr m.rep e1
      refine ⟨a, vs, rfl, by rw [hK]; exact s.symm, tG_bind m.st m.hr h1 fun ys us Z2 G2 H2 m2 h2 => ?_⟩
      exact okG.here (rel := RepL C) m2.hr h2 ((rl.ext m2.x m.hr).append m2.rep)
theorem s_tup {es : List Expr} {k : Nat} {pos : Pos} {f : Rho → Hh → R (List W)} (h : PA X es (tA C Wx f)) :
    PE X (.Tuple es k pos) (tE C Wx fun ρ G => (f ρ G).bind fun xs G1 => if xs.length ≤ 1000000 then .ok (.tup xs) G1 else .bad) :=
  PE.mono (pe_tup h) fun σ H Q ⟨ρ, Z, G, st, hr, h⟩ => tG_bind st hr h fun xs vs Z1 G1 H1 m h1 => by
    obtain ⟨hz, h1⟩ := okG.if_inv h1
    exact ⟨sz1 (by rw [← RepL.length m.rep]; exact hz), fun p hp => okG.newT m.hr h1 m.rep hp⟩
theorem s_lst {es : List Expr} {pos : Pos} {f : Rho → Hh → R (List W)} (mu : Bool) (h : PA X es (tA C Wx f)) :
    PE X (.List es pos) (tE C Wx fun ρ G => (f ρ G).bind fun xs G1 => if xs.length ≤ 1000000 then (if mu then .ok (.ref G1.length) (G1 ++ [.lst xs]) else .ok (.lst xs) G1) else .bad) :=
  PE.mono (pe_lst h) fun σ H Q ⟨ρ, Z, G, st, hr, h⟩ => tG_bind st hr h fun xs vs Z1 G1 H1 m h1 => by
    obtain ⟨hz, h1⟩ := okG.if_inv h1
    refine ⟨sz1 (by rw [← RepL.length m.rep]; exact hz), fun p hp => ?_⟩
    cases mu with
    | false => exact okG.newL m.hr h1 m.rep hp
    | true =>
      have e := same_new (o := .lst vs) hp
      have x : Ext C Z1 G1 H1 (Z1.more G1.length p) (G1 ++ [.lst xs]) (upd H1 p (.lst vs)) := Ext.newc m.hr hp e ⟨vs, upd_same, RepL.newc hp e m.rep, .inr rfl⟩ (by rw [upd_same]; simp)
      refine h1 _ _ _ x ?_
      have r : Rep C (Z1.more G1.length p) (G1 ++ [Cell.lst xs]).length (upd H1 p (.lst vs)) (.ref G1.length) (.ref ((Z1.more G1.length p).α G1.length)) := .ref (by simp)
      have ap : (Z1.more G1.length p).α G1.length = p := if_pos rfl
      rw [ap] at r
      exact r

/-! ### dict displays of written keys and values -/
def keyV : L2.Key → V
  | .inl i => .int i
  | .inr x => .str x
def keyB : L2.Key → Expr → Bool
  | .inl i, .Constant (.int j) _ _ => i == j
  | .inr x, .Constant (.str y) _ _ => decide (x = y)
  | _, _ => false
def litB : W → Expr → Bool
  | .non, .Constant .none _ _ => true
  | .bl b, .Constant (.bool c) _ _ => b == c
  | .int i, .Constant (.int j) _ _ => i == j
  | .str x, .Constant (.str y) _ _ => decide (x = y)
  | _, _ => false
def litV : W → V
  | .bl b => .bl b
  | .int i => .int i
  | .str x => .str x
  | _ => .non
def dctB : List L2.Key → List W → List (Option Expr) → List Expr → Bool
  | [], [], [], [] => true
  | k :: ks, x :: xs, some e :: es, v :: vs => keyB k e && litB x v && dctB ks xs es vs
  | _, _, _, _ => false
theorem pe_keyB {k : L2.Key} {e : Expr} (h : keyB k e = true) : PE X e (tC (kV k)) := by
  unfold keyB at h
  split at h
  · obtain rfl := eq_of_beq h
    exact pe_int
  · obtain rfl := of_decide_eq_true h
    exact pe_str
  · cases h
theorem pe_litB {x : W} {e : Expr} (h : litB x e = true) : PE X e (tC (litV x)) ∧ ∀ Z n H, Rep C Z n H x (litV x) := by
  unfold litB at h
  split at h
  · exact ⟨pe_non, fun _ _ _ => .non⟩
  · obtain rfl := eq_of_beq h
    exact ⟨pe_bl, fun _ _ _ => .bl _⟩
  · obtain rfl := eq_of_beq h
    exact ⟨pe_int, fun _ _ _ => .int _⟩
  · obtain rfl := of_decide_eq_true h
    exact ⟨pe_str, fun _ _ _ => .str _⟩
  · cases h
def dctT (ks : List L2.Key) (xs : List W) : List (TE × TE) := (ks.zip xs).map fun p => (tC (kV p.1), tC (litV p.2))
theorem dct_pps {pos : Pos} : ∀ {ks : List L2.Key} {xs : List W} {es : List (Option Expr)} {vs : List Expr}, dctB ks xs es vs = true →
    PPs X pos es vs (dctT ks xs) ∧ (∀ Z n H, RepL C Z n H xs (xs.map litV)) ∧ es.all (·.isSome) = true ∧ es.length = ks.length ∧ vs.length = ks.length ∧ xs.length = ks.length
  | [], [], [], [], _ => ⟨pps_nil, fun _ _ _ => .nil, rfl, rfl, rfl, rfl⟩
  | k :: ks, x :: xs, some e :: es, v :: vs, h => by
    simp only [dctB, Bool.and_eq_true] at h
    obtain ⟨⟨h1, h2⟩, h3⟩ := h
    obtain ⟨q1, q2, q3, q4, q5, q6⟩ := dct_pps (pos := pos) h3
    obtain ⟨p1, p2⟩ := pe_litB (X := X) (C := C) h2
    exact ⟨pps_cons (pe_keyB h1) p1 q1, fun Z n H => .cons (p2 Z n H) (q2 Z n H), by simpa using q3, by simp [q4], by simp [q5], by simp [q6]⟩
  | [], [], some _ :: _, _, h => by simp [dctB] at h
  | [], [], none :: _, _, h => by simp [dctB] at h
  | [], [], [], _ :: _, h => by simp [dctB] at h
  | [], _ :: _, _, _, h => by simp [dctB] at h
  | _ :: _, [], _, _, h => by simp [dctB] at h
  | _ :: _, _ :: _, [], _, h => by simp [dctB] at h
  | _ :: _, _ :: _, none :: _, _, h => by simp [dctB] at h
  | _ :: _, _ :: _, some _ :: _, [], h => by simp [dctB] at h
theorem pairs_lit {σ : L2.St} {H : Hp} {Q : List (V × V) → Hp → Prop} : ∀ {ks : List L2.Key} {xs : List W}, Q ((ks.zip xs).map fun p => (kV p.1, litV p.2)) H → tPairs (dctT ks xs) σ H Q
  | [], _, h => h
  | _ :: _, [], h => h
  | k :: ks, x :: xs, h => pairs_lit (ks := ks) (xs := xs) (Q := fun ps H3 => Q ((kV k, litV x) :: ps) H3) h
theorem merge_new : ∀ (more kvs : List (L2.Key × V)), ((kvs ++ more).map (·.1)).Nodup → mergeK kvs more = kvs ++ more
  | [], kvs, _ => (List.append_nil kvs).symm
  | p :: r, kvs, h => by
    have h0 : valV kvs p.1 = none := by
      cases e : valV kvs p.1 with
      | none => rfl
      | some v =>
        exfalso
        have : (kvs.any fun kv => decide (kv.1 = p.1)) = true := by rw [valV_any, e]; rfl
        obtain ⟨q, hq, hq2⟩ := List.any_eq_true.mp this
        have hq2 : q.1 = p.1 := of_decide_eq_true hq2
        rw [List.map_append, List.nodup_append] at h
        exact h.2.2 q.1 (List.mem_map_of_mem hq) p.1 (by simp) hq2
    show mergeK (putK kvs p.1 p.2) r = _
    rw [putK_new p.2 h0]
    have e : kvs ++ p :: r = kvs ++ [(p.1, p.2)] ++ r := by simp
    rw [e] at h ⊢
    exact merge_new r _ h
theorem s_dct {ks : List L2.Key} {xs : List W} {es : List (Option Expr)} {vs : List Expr} {pos : Pos} (h : dctB ks xs es vs = true) (nd : ks.Nodup) (h15 : ks.length ≤ 15) : PE X (.Dict es vs pos) (tE C Wx fun _ G => .ok (.ref G.length) (G ++ [.dct ks xs])) := by
  obtain ⟨q1, q2, q3, q4, q5, q6⟩ := dct_pps (X := X) (C := C) (pos := pos) h
  have fin : ∀ {σ : L2.St} {Z : Wit} {G : Hh} {H : Hp} {Q : VK} {p : Addr} {kvs : List (L2.Key × V)}, HRep C Z G H → okG C Wx σ (Rep C) Z G H (.ok (.ref G.length) (G ++ [.dct ks xs])) Q → H p = none → kvs.map (·.1) = ks → kvs.map (·.2) = xs.map litV → Q (.ref p) (upd H p (.dK kvs)) := by
    intro σ Z G H Q p kvs hr h hp e1 e2
    have e := same_new (o := .dK kvs) hp
    have x : Ext C Z G H (Z.more G.length p) (G ++ [.dct ks xs]) (upd H p (.dK kvs)) := Ext.newc hr hp e ⟨kvs, upd_same, e1, by rw [e2]; exact q2 _ _ _, .inr rfl⟩ (by rw [upd_same]; simp)
    refine h _ _ _ x ?_
    have r : Rep C (Z.more G.length p) (G ++ [Cell.dct ks xs]).length (upd H p (.dK kvs)) (.ref G.length) (.ref ((Z.more G.length p).α G.length)) := .ref (by simp)
    have ap : (Z.more G.length p).α G.length = p := if_pos rfl
    rw [ap] at r
    exact r
  have len : ∀ {ks : List L2.Key} {xs : List W}, xs.length = ks.length → (ks.zip xs).map (·.1) = ks ∧ (ks.zip xs).map (·.2) = xs := fun {ks xs} e => ⟨List.map_fst_zip (by omega), List.map_snd_zip (by omega)⟩
  cases ks with
  | nil =>
    have h1 : es = [] := List.length_eq_zero_iff.mp q4
    have h2 : vs = [] := List.length_eq_zero_iff.mp q5
    have h3 : xs = [] := List.length_eq_zero_iff.mp q6
    subst h1
    subst h2
    subst h3
    exact PE.mono pe_dnewK fun σ H Q ⟨ρ, Z, G, st, hr, h⟩ p hp => fin hr h hp rfl rfl
  | cons k0 ks0 =>
    refine PE.mono (pe_disp q1 q3 (by rw [q4, q5]) (fun z => by rw [z] at q4; simp at q4) (by rw [q4]; exact h15)) fun σ H Q ⟨ρ, Z, G, st, hr, h⟩ p hp => ?_
    refine pairs_lit ⟨upd_same, (List.map (fun p => (p.1, litV p.2)) ((k0 :: ks0).zip xs)), by rw [List.map_map]; rfl, by rw [List.length_map, List.length_zip]; omega, ?_⟩
    rw [upd_upd]
    have e1 : (List.map (fun p => (p.1, litV p.2)) ((k0 :: ks0).zip xs)).map (·.1) = k0 :: ks0 := by
      rw [List.map_map]
      exact (len q6).1
    have e2 : (List.map (fun p => (p.1, litV p.2)) ((k0 :: ks0).zip xs)).map (·.2) = xs.map litV := by
      rw [List.map_map]
      have : ((fun (x : L2.Key × V) => x.2) ∘ fun (p : L2.Key × W) => (p.1, litV p.2)) = litV ∘ fun p => p.2 := rfl
      rw [this, ← List.map_map, (len q6).2]
    rw [merge_new _ [] (by rw [List.nil_append, e1]; exact nd), List.nil_append]
    exact fin hr h hp e1 e2
/-! ### subscripts, slices -/
theorem atI_rep {Z : Wit} {n : Nat} {H : Hp} {xs : List W} {vs : List V} {i : Int} {w : W} (r : RepL C Z n H xs vs) (e : atI xs i = some w) : ∃ v, atI vs i = some v ∧ Rep C Z n H w v := by
  unfold atI at e ⊢
  rw [r.length] at e
  cases q : ixN vs.length i with
  | none => rw [q] at e; cases e
  | some j =>
    rw [q] at e
    obtain ⟨v, h1, h2⟩ := r.get (i := j) (w := w) e
    exact ⟨v, h1, h2⟩
theorem s_ix {a b : Expr} {f g : Rho → Hh → R W} {pos : Pos} (hK : X.K = C.K) (hp : PlainIx b) (ha : PE X a (tE C Wx f)) (hb : PE X b (tE C Wx g)) :
    PE X (.Subscript a b pos) (tE C Wx fun ρ G => (f ρ G).bind fun x G1 => (g ρ G1).bind fun y G2 => ofO (evIx x y G2) G2) :=
  s_bin (r := fun x y H Q => rIxL X.K x y H Q ∨ rIxT X.K x y H Q) (fun _ _ ha hb => pe_ix (ix_list.or ix_tup) ha hb hp) ha hb fun σ x y v u Z G H Q hr rx ry h => by
    obtain ⟨w, e, h2⟩ := okG.ofO_inv h
    cases y with
    | int i =>
      cases ry
      simp only [evIx] at e
      obtain ⟨xs, e1, e2⟩ := Option.bind_eq_some_iff.mp e
      obtain ⟨a, vs, rfl, s, rl⟩ := seqOf_sq hr rx e1
      obtain ⟨v, e3, rv⟩ := atI_rep rl e2
      rcases s with s | s
      · exact .inl ⟨a, vs, i, v, rfl, rfl, by rw [hK]; exact s, e3, okG.here hr h2 rv⟩
      · exact .inr ⟨a, vs, i, v, rfl, rfl, by rw [hK]; exact s, e3, okG.here hr h2 rv⟩
    | _ => cases e
theorem s_ono : PO X none (tG C Wx relO fun _ G => .ok none G) := by
  refine ⟨fun pins s σ H Q I h => ?_⟩
  obtain ⟨ρ, Z, G, st, hr, h⟩ := h
  exact po_none.run pins s σ H Q I (okG.here (rel := relO) hr h rfl)
theorem s_oyes {e : Expr} {f : Rho → Hh → R W} (he : PE X e (tE C Wx f)) : PO X (some e) (tG C Wx relO fun ρ G => (f ρ G).bind fun x G1 => match x with
    | .int i => .ok (some i) G1
    | _ => .bad) := by
  refine ⟨fun pins s σ H Q I h => ?_⟩
  obtain ⟨ρ, Z, G, st, hr, h⟩ := h
  refine (po_some he).run pins s σ H Q I ?_
  refine tG_bind st hr h fun x v Z1 G1 H1 m h1 => ?_
  cases x with
  | int i => cases m.rep; exact ⟨i, rfl, okG.here (rel := relO) m.hr h1 rfl⟩
  | _ => exact h1.elim
theorem cutW_rep {Z : Wit} {n : Nat} {H : Hp} {xs : List W} {vs : List V} (r : RepL C Z n H xs vs) (lo hi : Option Int) : RepL C Z n H (cutW xs lo hi) (cutV vs lo hi) := by
  unfold cutW cutV
  rw [r.length]
  exact (r.drop _).take _
theorem s_sl {a : Expr} {lo hi : Option Expr} {f : Rho → Hh → R W} {l u : Rho → Hh → R (Option Int)} {p2 pos : Pos} (hK : X.K = C.K) (ha : PE X a (tE C Wx f)) (hl : PO X lo (tG C Wx relO l)) (hu : PO X hi (tG C Wx relO u)) :
    PE X (.Subscript a (.Slice lo hi none p2) pos) (tE C Wx fun ρ G => (f ρ G).bind fun x G1 => (l ρ G1).bind fun i G2 => (u ρ G2).bind fun j G3 => ofO (evSl x i j G3) G3) :=
  PE.mono (pe_slice (sl_list.or sl_tupA) ha hl hu) fun σ H Q ⟨ρ, Z, G, st, hr, h⟩ => tG_bind st hr h fun x v Z1 G1 H1 m h1 => tG_bind m.st m.hr h1 fun i i' Z2 G2 H2 m2 h2 => tG_bind m2.st m2.hr h2 fun j j' Z3 G3 H3 m3 h3 => by
    cases (show i = i' from m2.rep)
    cases (show j = j' from m3.rep)
    have r : Rep C Z3 G3.length H3 x v := (m.rep.ext m2.x m.hr).ext m3.x m2.hr
    obtain ⟨w, e, h3⟩ := okG.ofO_inv h3
    cases x with
    | tup xs =>
      simp only [evSl] at e; cases e
      obtain ⟨a, vs, rfl, s, rl⟩ := r.tupi
      refine .inr ⟨a, vs, rfl, by rw [hK]; exact s, fun hw => ?_, fun _ p hp => okG.newT m3.hr h3 (cutW_rep rl i j) hp⟩
      refine okG.here m3.hr h3 ?_
      have e : cutW xs i j = xs := by
        unfold cutW
        rw [rl.length, hw.1, hw.2, List.drop_zero, Nat.sub_zero, ← rl.length, List.take_length]
      rw [e]
      exact .tup s rl
    | lst xs =>
      simp only [evSl] at e; cases e
      obtain ⟨a, vs, rfl, s, rl⟩ := r.seq
      exact .inl ⟨a, vs, rfl, by rw [hK]; exact s, fun p hp => okG.newL m3.hr h3 (cutW_rep rl i j) hp⟩
    | ref n =>
      obtain ⟨hn, rfl⟩ := r.refi
      simp only [evSl] at e
      cases q : G3[n]? with
      | none => rw [q] at e; cases e
      | some c =>
        rw [q] at e
        cases c with
        | lst ys =>
          cases e
          obtain ⟨vs, q1, q2, _⟩ := m3.hr.cells n _ q
          exact .inl ⟨_, vs, rfl, SqL.of q1, fun p hp => okG.newL m3.hr h3 (cutW_rep q2 i j) hp⟩
        | _ => cases e
    | _ => cases e
end
end PI
end

section
set_option autoImplicit false
/-! PI5: built-ins. -/
namespace PI
open PySem L2
section
variable {C : Cn} {Wx : WX} {X : Cx}
def noStar : List Expr → Bool
  | [] => true
  | e :: es => !isStar e && noStar es
theorem noStar_back : ∀ {es : List Expr} {env : Env} {pos : Pos}, noStar es = true → (backTo pos (starEach es env)).any (·.1) = false
  | [], _, _, _ => rfl
  | e :: es, env, pos, h => by
    rw [noStar, Bool.and_eq_true, Bool.not_eq_true'] at h
    rw [star_plain h.1]
    show (false || (backTo pos (starEach es env)).any (·.1)) = false
    rw [noStar_back h.2]
    rfl
/-- what is wanted of a built-in's answer -/
def BiOk (C : Cn) (b : Bi) (r : List V → Hp → VK → Prop) : Prop :=
  ∀ (Wx : WX) (σ : L2.St) (xs : List W) (vs : List V) (Z : Wit) (G : Hh) (H : Hp) (Q : VK) (w : W), HRep C Z G H → RepL C Z G.length H xs vs → evBi b xs G = some w → okG C Wx σ (Rep C) Z G H (.ok w G) Q → r vs H Q
theorem bi_read {b : Bi} {r : List V → Hp → VK → Prop} {f : Rho → Hh → R (List W)} (ho : BiOk C b r) {σ : L2.St} {H : Hp} {Q : VK}
    (h : tE C Wx (fun ρ G => (f ρ G).bind fun xs G1 => ofO (evBi b xs G1) G1) σ H Q) : tCB r (tA C Wx f) σ H Q := by
  obtain ⟨ρ, Z, G, st, hr, h⟩ := h
  refine tG_bind st hr h fun xs vs Z1 G1 H1 m h1 => ?_
  obtain ⟨w, e, h2⟩ := okG.ofO_inv h1
  exact ho Wx σ xs vs Z1 G1 H1 Q w m.hr m.rep e h2
theorem s_biB {b : Bi} {nb : Str} {id : String} {r : List V → Hp → VK → Prop} {e : Expr} {es : List Expr} {p pos : Pos} {f : Rho → Hh → R (List W)} (ho : BiOk C b r) (hc : CallR X (.builtin id) r) (hg : Gl X nb) (hm : X.mg nb = none)
    (hv : bootBuiltins nb = some (.builtin id)) (ha : PA X (e :: es) (tA C Wx f)) (hs : noStar (e :: es) = true) (hn : nb ≠ "__name__") (hdb : (nb == ("__debug__" : Str)) = false) :
    PE X (.Call (.Name nb p) (e :: es) [] pos) (tE C Wx fun ρ G => (f ρ G).bind fun xs G1 => ofO (evBi b xs G1) G1) := by
  rw [noStar, Bool.and_eq_true, Bool.not_eq_true'] at hs
  exact PE.mono (pe_callB hc hg hm hv ha hn hdb (star_plain hs.1) (noStar_back hs.2)) fun σ H Q h => bi_read ho h
theorem s_biT {b : Bi} {nb : Str} {T : String} {r : List V → Hp → VK → Prop} {e : Expr} {es : List Expr} {p pos : Pos} {f : Rho → Hh → R (List W)} (ho : BiOk C b r) (hc : CallR X (.type T) r) (hg : Gl X nb) (hm : X.mg nb = none)
    (hv : bootBuiltins nb = some (.type T)) (ha : PA X (e :: es) (tA C Wx f)) (hs : noStar (e :: es) = true) (hn : nb ≠ "__name__") (hdb : (nb == ("__debug__" : Str)) = false) :
    PE X (.Call (.Name nb p) (e :: es) [] pos) (tE C Wx fun ρ G => (f ρ G).bind fun xs G1 => ofO (evBi b xs G1) G1) := by
  rw [noStar, Bool.and_eq_true, Bool.not_eq_true'] at hs
  exact PE.mono (pe_callTy hc hg hm hv ha hn hdb (star_plain hs.1) (noStar_back hs.2)) fun σ H Q h => bi_read ho h

/-! ### by the built-ins -/
theorem one_inv {Z : Wit} {n : Nat} {H : Hp} {x : W} {vs : List V} (r : RepL C Z n H [x] vs) : ∃ v, vs = [v] ∧ Rep C Z n H x v := by
  cases r with
  | cons a b => cases b; exact ⟨_, rfl, a⟩
theorem two_inv {Z : Wit} {n : Nat} {H : Hp} {x y : W} {vs : List V} (r : RepL C Z n H [x, y] vs) : ∃ v u, vs = [v, u] ∧ Rep C Z n H x v ∧ Rep C Z n H y u := by
  cases r with
  | cons a b =>
    cases b with
    | cons c d => cases d; exact ⟨_, _, rfl, a, c⟩
theorem ints_rep {Z : Wit} {n : Nat} {H : Hp} : ∀ {xs : List W} {vs : List V} {is : List Int}, RepL C Z n H xs vs → intsOf xs = some is → vs = is.map V.int
  | _, _, _, .nil, e => by simp only [intsOf] at e; cases e; rfl
  | _, _, is, .cons a t, e => by
    cases a with
    | int i =>
      simp only [intsOf, Option.map_eq_some_iff] at e
      obtain ⟨js, e, rfl⟩ := e
      rw [ints_rep t e]
      rfl
    | _ => simp [intsOf] at e
theorem bls_rep {Z : Wit} {n : Nat} {H : Hp} : ∀ {xs : List W} {vs : List V} {is : List Bool}, RepL C Z n H xs vs → blsOf xs = some is → vs = is.map V.bl
  | _, _, _, .nil, e => by simp only [blsOf] at e; cases e; rfl
  | _, _, is, .cons a t, e => by
    cases a with
    | bl i =>
      simp only [blsOf, Option.map_eq_some_iff] at e
      obtain ⟨js, e, rfl⟩ := e
      rw [bls_rep t e]
      rfl
    | _ => simp [blsOf] at e
theorem ev1_inv {f : W → Option W} {xs : List W} {w : W} (e : ev1 f xs = some w) : ∃ x, xs = [x] ∧ f x = some w := by
  match xs, e with
  | [x], e => exact ⟨x, rfl, e⟩
theorem ev2_inv {f : W → W → Option W} {xs : List W} {w : W} (e : ev2 f xs = some w) : ∃ x y, xs = [x, y] ∧ f x y = some w := by
  match xs, e with
  | [x, y], e => exact ⟨x, y, rfl, e⟩
theorem onI_inv {f : Int → Option W} {x w : W} (e : onI f x = some w) : ∃ i, x = .int i ∧ f i = some w := by
  cases x <;> first | (cases e; done) | exact ⟨_, rfl, e⟩
theorem onL_inv {f : List W → Option W} {x w : W} (e : onL f x = some w) : ∃ i, x = .lst i ∧ f i = some w := by
  cases x <;> first | (cases e; done) | exact ⟨_, rfl, e⟩
theorem onT_inv {f : List W → Option W} {x w : W} (e : onT f x = some w) : ∃ i, x = .tup i ∧ f i = some w := by
  cases x <;> first | (cases e; done) | exact ⟨_, rfl, e⟩
theorem ok_len (K : PySem.W.Frag) (hK : K = C.K) : BiOk C .len (fun xs H Q => ∃ p ys, xs = [.ref p] ∧ (SqL K H p ys ∨ SqT K H p ys) ∧ Q (.int ys.length) H) := by
  intro Wx σ xs vs Z G H Q w hr r e h
  obtain ⟨x, rfl, e1⟩ := ev1_inv e
  obtain ⟨ys, e2, rfl⟩ := Option.map_eq_some_iff.mp e1
  obtain ⟨v, rfl, rv⟩ := one_inv r
  obtain ⟨a, us, rfl, s, rl⟩ := seqOf_sq hr rv e2
  refine ⟨a, us, rfl, by rw [hK]; exact s, ?_⟩
  rw [← rl.length]
  exact okG.here hr h (.int _)
theorem ok_sum (K : PySem.W.Frag) (hK : K = C.K) : BiOk C .sum (rSum K) := by
  intro Wx σ xs vs Z G H Q w hr r e h
  obtain ⟨x, rfl, e1⟩ := ev1_inv e
  obtain ⟨ys, rfl, e2⟩ := onL_inv e1
  obtain ⟨is, e3, rfl⟩ := Option.map_eq_some_iff.mp e2
  obtain ⟨v, rfl, rv⟩ := one_inv r
  obtain ⟨a, us, rfl, s, rl⟩ := rv.seq
  rw [ints_rep rl e3] at s
  exact ⟨a, is, rfl, by rw [hK]; exact s, okG.here hr h (.int _)⟩
theorem ok_any (K : PySem.W.Frag) (hK : K = C.K) : BiOk C .any (rAny K) := by
  intro Wx σ xs vs Z G H Q w hr r e h
  obtain ⟨x, rfl, e1⟩ := ev1_inv e
  obtain ⟨ys, rfl, e2⟩ := onL_inv e1
  obtain ⟨is, e3, rfl⟩ := Option.map_eq_some_iff.mp e2
  obtain ⟨v, rfl, rv⟩ := one_inv r
  obtain ⟨a, us, rfl, s, rl⟩ := rv.seq
  rw [bls_rep rl e3] at s
  exact ⟨a, is, rfl, by rw [hK]; exact s, okG.here hr h (.bl _)⟩
theorem ok_all (K : PySem.W.Frag) (hK : K = C.K) : BiOk C .all (rAll K) := by
  intro Wx σ xs vs Z G H Q w hr r e h
  obtain ⟨x, rfl, e1⟩ := ev1_inv e
  obtain ⟨ys, rfl, e2⟩ := onL_inv e1
  obtain ⟨is, e3, rfl⟩ := Option.map_eq_some_iff.mp e2
  obtain ⟨v, rfl, rv⟩ := one_inv r
  obtain ⟨a, us, rfl, s, rl⟩ := rv.seq
  rw [bls_rep rl e3] at s
  exact ⟨a, is, rfl, by rw [hK]; exact s, okG.here hr h (.bl _)⟩
theorem ok_max2 : BiOk C .max2 (fun xs H Q => ∃ i j, xs = [.int i, .int j] ∧ Q (.int (if j > i then j else i)) H) := by
  intro Wx σ xs vs Z G H Q w hr r e h
  obtain ⟨x, y, rfl, e1⟩ := ev2_inv e
  obtain ⟨i, rfl, e2⟩ := onI_inv e1
  obtain ⟨j, rfl, e3⟩ := onI_inv e2
  cases e3
  obtain ⟨v, u, rfl, rv, ru⟩ := two_inv r
  cases rv; cases ru
  exact ⟨i, j, rfl, okG.here hr h (.int _)⟩
theorem ok_min2 : BiOk C .min2 (fun xs H Q => ∃ i j, xs = [.int i, .int j] ∧ Q (.int (if j < i then j else i)) H) := by
  intro Wx σ xs vs Z G H Q w hr r e h
  obtain ⟨x, y, rfl, e1⟩ := ev2_inv e
  obtain ⟨i, rfl, e2⟩ := onI_inv e1
  obtain ⟨j, rfl, e3⟩ := onI_inv e2
  cases e3
  obtain ⟨v, u, rfl, rv, ru⟩ := two_inv r
  cases rv; cases ru
  exact ⟨i, j, rfl, okG.here hr h (.int _)⟩
theorem ok_abs : BiOk C .abs (fun xs H Q => ∃ i, xs = [.int i] ∧ Q (.int (if i < 0 then -i else i)) H) := by
  intro Wx σ xs vs Z G H Q w hr r e h
  obtain ⟨x, rfl, e1⟩ := ev1_inv e
  obtain ⟨i, rfl, e2⟩ := onI_inv e1
  cases e2
  obtain ⟨v, rfl, rv⟩ := one_inv r
  cases rv
  exact ⟨i, rfl, okG.here hr h (.int _)⟩
theorem ok_int : BiOk C .int (fun xs H Q => (∃ i, xs = [.int i] ∧ Q (.int i) H) ∨ ∃ k, xs = [.bl k] ∧ Q (.int (if k then 1 else 0)) H) := by
  intro Wx σ xs vs Z G H Q w hr r e h
  obtain ⟨x, rfl, e1⟩ := ev1_inv e
  obtain ⟨v, rfl, rv⟩ := one_inv r
  cases x <;> first | (cases e1; done) | skip
  · rename_i k
    cases e1
    cases rv
    exact .inr ⟨k, rfl, okG.here hr h (.int _)⟩
  · rename_i k
    cases e1
    cases rv
    exact .inl ⟨k, rfl, okG.here hr h (.int _)⟩
theorem ok_tuple (K : PySem.W.Frag) (hK : K = C.K) : BiOk C .tuple (fun xs H Q => ∃ p ys, xs = [.ref p] ∧ ((SqL K H p ys ∧ ∀ l, H l = none → Q (.ref l) (upd H l (.tup ys))) ∨ (SqT K H p ys ∧ Q (.ref p) H))) := by
  intro Wx σ xs vs Z G H Q w hr r e h
  obtain ⟨x, rfl, e1⟩ := ev1_inv e
  obtain ⟨ys, e2, rfl⟩ := Option.map_eq_some_iff.mp e1
  obtain ⟨v, rfl, rv⟩ := one_inv r
  obtain ⟨a, us, rfl, s, rl⟩ := seqOf_sq hr rv e2
  refine ⟨a, us, rfl, ?_⟩
  rcases s with s | s
  · exact .inl ⟨by rw [hK]; exact s, fun p hp => okG.newT hr h rl hp⟩
  · exact .inr ⟨by rw [hK]; exact s, okG.here hr h (.tup s rl)⟩
theorem ok_list (K : PySem.W.Frag) (hK : K = C.K) : BiOk C .list (fun xs H Q => ∃ p ys, xs = [.ref p] ∧ (SqL K H p ys ∨ SqT K H p ys) ∧ ∀ l, H l = none → Q (.ref l) (upd H l (.lst ys))) := by
  intro Wx σ xs vs Z G H Q w hr r e h
  obtain ⟨x, rfl, e1⟩ := ev1_inv e
  obtain ⟨ys, e2, rfl⟩ := Option.map_eq_some_iff.mp e1
  obtain ⟨v, rfl, rv⟩ := one_inv r
  obtain ⟨a, us, rfl, s, rl⟩ := seqOf_sq hr rv e2
  exact ⟨a, us, rfl, by rw [hK]; exact s, fun p hp => okG.newL hr h rl hp⟩
theorem ok_divmod : BiOk C .divmod (fun xs H Q => ∃ i j, xs = [.int i, .int j] ∧ CDiv i j ∧ ∀ p, H p = none → Q (.ref p) (upd H p (.tup [.int (i / j), .int (i % j)]))) := by
  intro Wx σ xs vs Z G H Q w hr r e h
  obtain ⟨x, y, rfl, e1⟩ := ev2_inv e
  obtain ⟨i, rfl, e2⟩ := onI_inv e1
  obtain ⟨j, rfl, e3⟩ := onI_inv e2
  by_cases c : 0 < j ∧ j < 1073741824
  · rw [if_pos c] at e3
    cases e3
    obtain ⟨v, u, rfl, rv, ru⟩ := two_inv r
    cases rv; cases ru
    exact ⟨i, j, rfl, c, fun p hp => okG.newT hr h (.cons (.int _) (.cons (.int _) .nil)) hp⟩
  · rw [if_neg c] at e3; cases e3
/-- min of a tuple of whole numbers -/
def rMinT (K : PySem.W.Frag) : List V → Hp → VK → Prop := fun vs H Q => ∃ (a : Addr) (n : Int) (ns : List Int), vs = [V.ref a] ∧ SqT K H a ((n :: ns).map V.int) ∧ Q (.int (ns.foldl (fun a y => if y < a then y else a) n)) H
theorem cr_minT (hc : X.calm = true) (hu : X.A.units + 64 < cLine) : CallR X (.builtin "min") (rMinT X.K) := by
  intro pins s σ H xs us Q I r h
  obtain ⟨a, n, ns, rfl, ht, q⟩ := h
  obtain ⟨u, rfl, ru⟩ := vals1 r
  cases ru
  obtain ⟨its, rv, p, hz⟩ := I.tuple ht
  have rd : PySem.W.HoldAll s.heap its.toArray.toList (n :: ns) := by
    have e : its.toArray.toList = its := by simp
    rw [e]
    have dp : DpAll X.K H ((n :: ns).map V.int) ((n :: ns).map PyData.int) := by
      generalize n :: ns = l
      induction l with
      | nil => exact .nil
      | cons x l ih => exact .cons (.int x) ih
    exact Dp.readsAll I _ _ _ dp rv
  refine PySem.W.min_tuple_datum (α := Int) (x := n) (xs := ns) (I.ok.hd hc) (show s.heap.IsTuple a its.toArray from p) rd (by show X.A.units + 1 + 0 < cLine; omega) fun i v h' tk hi hh hk => ?_
  obtain ⟨as, hh⟩ := hh
  have e : PySem.W.minOf n ns = ns.foldl (fun a y => if y < a then y else a) n := by
    unfold PySem.W.minOf
    congr 1
    funext a y
    by_cases c : y < a
    · rw [if_pos c, if_pos (by exact decide_eq_true c)]
    · rw [if_neg c, if_neg (by intro z; exact c (of_decide_eq_true z))]
  rw [e] at hh
  have hv : ∃ t, v = .int (ns.foldl (fun a y => if y < a then y else a) n) t := by
    generalize ns.foldl (fun a y => if y < a then y else a) n = m at hh
    have hh2 : Reads h' v (.int m) as := hh
    cases hh2 with
    | int i t => exact ⟨t, rfl⟩
  obtain ⟨t, rfl⟩ := hv
  exact ⟨.int _, H, I.kept hk, ⟨t, rfl⟩, q⟩
theorem ok_min1 (K : PySem.W.Frag) (hK : K = C.K) : BiOk C .min1 (rMinT K) := by
  intro Wx σ xs vs Z G H Q w hr r e h
  obtain ⟨x, rfl, e1⟩ := ev1_inv e
  obtain ⟨ys, rfl, e2⟩ := onT_inv e1
  obtain ⟨m, e3, rfl⟩ := Option.map_eq_some_iff.mp e2
  obtain ⟨is, e4, e5⟩ := Option.bind_eq_some_iff.mp e3
  obtain ⟨v, rfl, rv⟩ := one_inv r
  obtain ⟨a, us, rfl, s, rl⟩ := rv.tupi
  rw [ints_rep rl e4] at s
  cases is with
  | nil => cases e5
  | cons i is =>
    simp only [minI] at e5
    cases e5
    exact ⟨a, i, is, rfl, by rw [hK]; exact s, okG.here hr h (.int _)⟩
theorem perm_insI (x : Int) : ∀ l : List Int, (insI x l).Perm (x :: l)
  | [] => .refl _
  | y :: r => by
    unfold insI
    split
    · exact .refl _
    · exact ((perm_insI x r).cons y).trans (.swap x y r)
theorem perm_sortI : ∀ l : List Int, (sortI l).Perm l
  | [] => .refl _
  | x :: r => (perm_insI x _).trans ((perm_sortI r).cons x)
theorem pw_insI (x : Int) : ∀ l : List Int, l.Pairwise (· ≤ ·) → (insI x l).Pairwise (· ≤ ·)
  | [], _ => by simp [insI]
  | y :: r, h => by
    unfold insI
    split
    · rename_i c
      rw [List.pairwise_cons] at h
      refine List.pairwise_cons.mpr ⟨fun z hz => ?_, List.pairwise_cons.mpr h⟩
      rcases List.mem_cons.mp hz with e | e
      · rw [e]; exact c
      · exact Int.le_trans c (h.1 z e)
    · rename_i c
      rw [List.pairwise_cons] at h
      refine List.pairwise_cons.mpr ⟨fun z hz => ?_, pw_insI x r h.2⟩
      rcases List.mem_cons.mp ((perm_insI x r).mem_iff.mp hz) with e | e
      · rw [e]; omega
      · exact h.1 z e
theorem pw_sortI : ∀ l : List Int, (sortI l).Pairwise (· ≤ ·)
  | [] => .nil
  | x :: r => pw_insI x _ (pw_sortI r)
theorem perm_uniq : ∀ {a b : List Int}, a.Perm b → a.Pairwise (· ≤ ·) → b.Pairwise (· ≤ ·) → a = b
  | [], b, p, _, _ => (List.nil_perm.mp p).symm
  | x :: a, [], p, _, _ => by simp at p
  | x :: a, y :: b, p, h1, h2 => by
    have h1' := List.pairwise_cons.mp h1
    have h2' := List.pairwise_cons.mp h2
    have e : x = y := by
      have m1 : x ∈ y :: b := p.mem_iff.mp (by simp)
      have m2 : y ∈ x :: a := p.mem_iff.mpr (by simp)
      rcases List.mem_cons.mp m1 with z | z
      · exact z
      · rcases List.mem_cons.mp m2 with u | u
        · exact u.symm
        · exact Int.le_antisymm (h1'.1 y u) (h2'.1 x z)
    subst e
    rw [perm_uniq (List.Perm.cons_inv p) h1'.2 h2'.2]
theorem lOf_sq {Z : Wit} {G : Hh} {H : Hp} (hr : HRep C Z G H) {w : W} {v : V} {xs : List W} (r : Rep C Z G.length H w v) (e : lOf G w = some xs) : ∃ a vs, v = .ref a ∧ SqL C.K H a vs ∧ RepL C Z G.length H xs vs := by
  cases w with
  | lst ys => cases e; exact r.seq
  | ref n =>
    obtain ⟨hn, rfl⟩ := r.refi
    simp only [lOf] at e
    cases q : G[n]? with
    | none => rw [q] at e; cases e
    | some c =>
      rw [q] at e
      cases c with
      | lst ys =>
        cases e
        obtain ⟨vs, q1, q2, _⟩ := hr.cells n _ q
        exact ⟨_, vs, rfl, SqL.of q1, q2⟩
      | _ => cases e
  | _ => cases e
theorem ok_sorted (K : PySem.W.Frag) (hK : K = C.K) : BiOk C .sorted (rSortedI K) := by
  intro Wx σ xs vs Z G H Q w hr r e h
  obtain ⟨x, rfl, e1⟩ := ev1_inv e
  obtain ⟨ys, e2, e3⟩ := Option.bind_eq_some_iff.mp e1
  obtain ⟨is, e4, rfl⟩ := Option.map_eq_some_iff.mp e3
  obtain ⟨v, rfl, rv⟩ := one_inv r
  obtain ⟨a, us, rfl, s, rl⟩ := lOf_sq hr rv e2
  rw [ints_rep rl e4] at s
  refine ⟨a, is, rfl, by rw [hK]; exact s, fun ns' p h1 h2 hp => ?_⟩
  rw [perm_uniq (h1.trans (perm_sortI is).symm) h2 (pw_sortI is)]
  refine okG.newL hr h ?_ hp
  generalize sortI is = l
  induction l with
  | nil => exact .nil
  | cons i l ih => exact .cons (.int i) ih
theorem dctOf_inv {Z : Wit} {G : Hh} {H : Hp} {x : W} {v : V} {p : List L2.Key × List W} (hr : HRep C Z G H) (r : Rep C Z G.length H x v) (e : dctOf x G = some p) :
    ∃ n kvs, x = .ref n ∧ v = .ref (Z.α n) ∧ G[n]? = some (.dct p.1 p.2) ∧ H (Z.α n) = some (.dK kvs) ∧ kvs.map (·.1) = p.1 ∧ RepL C Z G.length H p.2 (kvs.map (·.2)) ∧ Z.S (Z.α n) := by
  cases r with
  | ref hm =>
    rename_i n
    simp only [dctOf] at e
    cases q : G[n]? with
    | none => rw [q] at e; cases e
    | some d =>
      rw [q] at e
      cases d with
      | dct ks xs =>
        cases e
        obtain ⟨kvs, h1, h2, h3, h4⟩ := hr.cells n _ q
        exact ⟨n, kvs, rfl, rfl, q, h1, h2, h3, h4⟩
      | _ => cases e
  | _ => cases e
theorem ok_listD : BiOk C .listD (fun xs H Q => ∃ (a : Addr) (kvs : List (L2.Key × V)), xs = [.ref a] ∧ Rd H a (.dK kvs) ∧ ∀ p, H p = none → Q (.ref p) (upd H p (.lst (kvs.map fun kv => kV kv.1)))) := by
  intro Wx σ xs vs Z G H Q w hr r e h
  obtain ⟨x, rfl, e1⟩ := ev1_inv e
  obtain ⟨p, e2, rfl⟩ := Option.map_eq_some_iff.mp e1
  obtain ⟨v, rfl, rv⟩ := one_inv r
  obtain ⟨n, kvs, rfl, rfl, _, h1, h2, _, _⟩ := dctOf_inv hr rv e2
  refine ⟨_, kvs, rfl, .inl h1, fun p hp => okG.newL hr h ?_ hp⟩
  rw [← h2, List.map_map]
  generalize kvs = l
  induction l with
  | nil => exact .nil
  | cons i l ih =>
    refine .cons ?_ ih
    cases i with
    | mk k x => cases k with
      | inl i => exact .int i
      | inr x => exact .str x
/-! ### isinstance -/
def tyS : Ty → String
  | .non => "NoneType" | .bl => "bool" | .int => "int" | .str => "str" | .tup => "tuple" | .lst => "list"
theorem tyX_of {Z : Wit} {G : Hh} {H : Hp} (hr : HRep C Z G H) {w : W} {v : V} {t : Ty} (r : Rep C Z G.length H w v) (e : tyW G w = some t) : TyX C.K H v (.type (tyS t)) := by
  cases w with
  | non => cases r; cases e; exact .base .non
  | bl b => cases r; cases e; exact .base (.bl b)
  | int b => cases r; cases e; exact .base (.int b)
  | str b => cases r; cases e; exact .base (.str b)
  | tup xs =>
    obtain ⟨a, vs, rfl, s, _⟩ := r.tupi
    cases e
    rcases s with (s | ⟨o, s⟩) | ⟨o, its, n, h1, h2, _⟩
    · exact .base (.tup s)
    · exact .fTuple s
    · exact .kTuple h1 h2
  | lst xs =>
    obtain ⟨a, vs, rfl, s, _⟩ := r.seq
    cases e
    rcases s with (s | ⟨o, s⟩) | ⟨o, its, n, h1, h2, _⟩
    · exact .base (.lst s)
    · exact .base (.frz s)
    · exact .kList h1 h2
  | ref n =>
    obtain ⟨hn, rfl⟩ := r.refi
    simp only [tyW] at e
    cases q : G[n]? with
    | none => rw [q] at e; cases e
    | some c =>
      rw [q] at e
      cases c with
      | lst ys =>
        cases e
        obtain ⟨vs, q1, _, _⟩ := hr.cells n _ q
        exact .base (.lst q1)
      | _ => cases e
  | fn i => cases e
  | lam i => cases e
def tqS : Tq → String
  | .int => "int" | .bl => "bool" | .tup => "tuple" | .str => "str" | .lst => "list"
theorem kit_tq (q : Tq) (t : Ty) : kitB (tyS t) (tqS q) = some (tqB q t) := by
  cases q <;> cases t <;> decide +kernel
theorem boot_tq (q : Tq) : bootBuiltins (Str.ofString (tqS q)) = some (.type (tqS q)) := by
  cases q <;> decide +kernel
theorem nm_tq (q : Tq) : Str.ofString (tqS q) ≠ "__name__" ∧ (Str.ofString (tqS q) == ("__debug__" : Str)) = false := by
  cases q <;> decide +kernel
theorem boot_isi : bootBuiltins "isinstance" = some (.builtin "isinstance") := by decide +kernel
/-- isinstance(e, T), T a built-in type by its name -/
theorem s_isT (q : Tq) {e : Expr} {f : Rho → Hh → R W} {p p2 pos : Pos} (hK : X.K = C.K) (hg : Gl X "isinstance") (hm : X.mg "isinstance" = none) (hgT : Gl X (Str.ofString (tqS q))) (hmT : X.mg (Str.ofString (tqS q)) = none)
    (hs : isStar e = false) (h : PE X e (tE C Wx f)) :
    PE X (.Call (.Name "isinstance" p) [e, .Name (Str.ofString (tqS q)) p2] [] pos) (tE C Wx fun ρ G => (f ρ G).bind fun x G1 => ofO ((tyW G1 x).map fun u => .bl (tqB q u)) G1) := by
  have hT : PE X (.Name (Str.ofString (tqS q)) p2) (tC (.ty (tqS q))) := pe_bltn hgT hmT (boot_tq q) rfl (nm_tq q).1 (nm_tq q).2
  refine PE.mono (pe_callB call_isi hg hm boot_isi (pa_cons h (pa_cons hT pa_nil rfl) (star_plain hs)) (by decide +kernel) (by decide +kernel) (star_plain hs) rfl) fun σ H Q ⟨ρ, Z, G, st, hr, h⟩ => tG_bind st hr h fun x v Z1 G1 H1 m h1 => ?_
  obtain ⟨w, e1, h2⟩ := okG.ofO_inv h1
  obtain ⟨t, e2, rfl⟩ := Option.map_eq_some_iff.mp e1
  exact ⟨v, .ty (tqS q), .type (tyS t), .type (tqS q), tqB q t, rfl, .ty _, by rw [hK]; exact tyX_of m.hr m.rep e2, kit_ty (kit_tq q t), okG.here m.hr h2 (.bl _)⟩
/-! ### repr -/
mutual
theorem wt_le : ∀ d : PyData, shw d = true → d.weight + 1 ≤ 202 * nodes d
  | .none, _ => by simp [PyData.weight, nodes]
  | .bool _, _ => by simp [PyData.weight, nodes]
  | .int i, h => by
    simp only [shw, decide_eq_true_eq] at h
    simp only [PyData.weight, nodes]
    split
    · omega
    · rename_i hi
      have h0 : i.natAbs ≠ 0 := by
        intro z
        exact hi (by simp [Int.natAbs_eq_zero.mp z])
      have h2 : i.natAbs.log2 < 200 := (Nat.log2_lt h0).mpr (Nat.lt_of_lt_of_le h (by decide))
      omega
  | .str x, h => by
    simp only [shw, decide_eq_true_eq] at h
    have h : x.cps.size ≤ 100 := h
    simp only [PyData.weight, nodes]
    omega
  | .list xs, h => by
    simp only [shw] at h
    have := wts_le xs h
    simp only [PyData.weight, nodes]
    omega
  | .tuple xs, h => by
    simp only [shw] at h
    have := wts_le xs h
    simp only [PyData.weight, nodes]
    omega
  | .dict _, h => by simp [shw] at h
theorem wts_le : ∀ ds : List PyData, shws ds = true → PyData.weightAll ds ≤ 202 * nodess ds
  | [], _ => by simp [PyData.weightAll, nodess]
  | d :: ds, h => by
    rw [shws, Bool.and_eq_true] at h
    have h1 := wt_le d h.1
    have h2 := wts_le ds h.2
    simp only [PyData.weightAll, nodess]
    omega
end
mutual
theorem short_of : ∀ d : PyData, shw d = true → d.intsShort 61 = true
  | .none, _ => rfl
  | .bool _, _ => rfl
  | .int i, h => by
    simp only [shw, decide_eq_true_eq] at h
    simp only [PyData.intsShort, decide_eq_true_eq]
    have e := int_text_length_le10 (a := i) (k := 60) (by decide) (Nat.lt_of_lt_of_le h (by decide))
    show (Str.ofString (toString i)).length ≤ 61
    rw [ofString_length]
    exact e
  | .str x, _ => rfl
  | .list xs, h => by
    simp only [shw] at h
    simp only [PyData.intsShort]
    exact shorts_of xs h
  | .tuple xs, h => by
    simp only [shw] at h
    simp only [PyData.intsShort]
    exact shorts_of xs h
  | .dict _, h => by simp [shw] at h
theorem shorts_of : ∀ ds : List PyData, shws ds = true → PyData.intsShortAll 61 ds = true
  | [], _ => rfl
  | d :: ds, h => by
    rw [shws, Bool.and_eq_true] at h
    simp only [PyData.intsShortAll, Bool.and_eq_true]
    exact ⟨short_of d h.1, shorts_of ds h.2⟩
end
mutual
theorem show_of : ∀ d : PyData, shw d = true → d.showable = true
  | .none, _ => rfl
  | .bool _, _ => rfl
  | .int i, h => by
    simp only [shw, decide_eq_true_eq] at h
    simp only [PyData.showable, decide_eq_true_eq]
    by_cases h0 : i.natAbs = 0
    · rw [h0]; decide
    · exact (Nat.log2_lt h0).mpr (Nat.lt_of_lt_of_le h (by decide))
  | .str x, _ => rfl
  | .list xs, h => by
    simp only [shw] at h
    simp only [PyData.showable]
    exact shows_of xs h
  | .tuple xs, h => by
    simp only [shw] at h
    simp only [PyData.showable]
    exact shows_of xs h
  | .dict _, h => by simp [shw] at h
theorem shows_of : ∀ ds : List PyData, shws ds = true → PyData.showableAll ds = true
  | [], _ => rfl
  | d :: ds, h => by
    rw [shws, Bool.and_eq_true] at h
    simp only [PyData.showableAll, Bool.and_eq_true]
    exact ⟨show_of d h.1, shows_of ds h.2⟩
end
theorem shown_fit {d : PyData} (h : shw d = true) (n : nodes d ≤ 1000) (s : PySem.SeqAt.shaped d = true) : d.shown.length ≤ sizeLine := by
  have h1 := PyData.shown_le 61 (by decide) d (PyData.leavesShort_of_canLay0 61 d (PySem.SeqAt.canLay_of_shaped s) (short_of d h))
  have h2 := wt_le d h
  rw [sizeLine_eq]
  omega
def rRepr (C : Cn) : List V → Hp → VK → Prop := fun vs H Q => ∃ v d, vs = [v] ∧ Dp C.K H v d ∧ shw d = true ∧ nodes d ≤ 1000 ∧ PySem.SeqAt.shaped d = true ∧ Q (.str d.shown) H
theorem cr_repr (hK : X.K = C.K) (hu : X.A.units + 128 < cLine) (hg : X.A.guards = some []) : CallR X (.builtin "repr") (rRepr C) := by
  intro pins s σ H xs us Q I r h
  obtain ⟨v, d, rfl, dp, h1, h2, h3, q⟩ := h
  obtain ⟨u, rfl, ru⟩ := vals1 r
  have dp' : Dp X.K H v d := by rw [hK]; exact dp
  obtain ⟨as, rd⟩ := Dp.reads I d v u dp' ru
  have hz := shown_fit h1 h2 h3
  have hd := PySem.SeqAt.depth_of_shaped h3
  have nd : d.hasDict = false := PyData.hasDict_of_canLay d (PySem.SeqAt.canLay_of_shaped h3)
  have done : ∀ h' t tk, (∀ b o, s.heap.get? b = some o → h'.get? b = some o) → EP X pins σ Q (.str d.shown t) { s with heap := h', toks := tk } := fun h' t tk hk => ⟨.str d.shown, H, I.kept hk, ⟨t, rfl⟩, q⟩
  cases rd with
  | none => exact PySem.P.repr_of_none (done _ _ _ fun _ _ e => e)
  | bool b => exact PySem.P.repr_of_bool (done _ _ _ fun _ _ e => e)
  | int i t =>
    have hs := show_of _ h1
    simp only [PyData.showable, decide_eq_true_eq] at hs
    exact PySem.P.repr_of_int hs (done _ _ _ fun _ _ e => e)
  | str x t => exact PySem.P.repr_of_str (done _ _ _ fun _ _ e => e) hz
  | list a b c e => exact repr_of_reads' (.list a b c e) (show_of _ h1) (PyData.noDict_hsm nd) hg (by omega) (fun _ _ e => e) (fun h' t tk hk => done h' t tk hk) hz
  | tuple a b c e => exact repr_of_reads' (.tuple a b c e) (show_of _ h1) (PyData.noDict_hsm nd) hg (by omega) (fun _ _ e => e) (fun h' t tk hk => done h' t tk hk) hz
  | dict _ _ _ => simp [PyData.hasDict] at nd
theorem ok_repr : BiOk C .repr (rRepr C) := by
  intro Wx σ xs vs Z G H Q w hr r e h
  obtain ⟨x, rfl, e1⟩ := ev1_inv e
  obtain ⟨v, rfl, rv⟩ := one_inv r
  unfold evRepr at e1
  cases q : toDr G x with
  | none => rw [q] at e1; cases e1
  | some d =>
    rw [q] at e1
    simp only at e1
    by_cases c : shw d = true ∧ nodes d ≤ 1000 ∧ PySem.SeqAt.shaped d = true
    · rw [if_pos c] at e1
      cases e1
      exact ⟨v, d, rfl, toDr_dp hr rv q, c.1, c.2.1, c.2.2, okG.here hr h (.str _)⟩
    · rw [if_neg c] at e1; cases e1
end
end PI
end

section
set_option autoImplicit false
/-! PI6: calls. -/
namespace PI
open PySem L2
section
variable (C : Cn)
/-- what a def promises: what its run gives -/
def spOf (k i : Nat) : Sp := fun vs H Q E => ∃ ws Z G, RepL C Z G.length H ws vs ∧ HRep C Z G H ∧ okG C (fun cls d _ H => E cls d H) [] (Rep C) Z G H (run C.D.L C.D.fs k i ws G) Q
/-- a def keeps it, where no repr is under way -/
structure FnG (P : Program) (w : World) (K : PySem.W.Frag) (mg : Str → Option Value) (base : Heap) (k i : Nat) : Prop where
  len : ∀ F : Fn, C.D.fs[i]? = some F → F.ps = (C.pn i).length
  run : ∀ (A : Around) (outer : List Env) (s : Shared) (H : Hp) (args : Args) (us : List Value) (vs : List V) (Q : VK) (E : XK), Room (2 * k + 1) A → A.guards = some [] → Env0 P w K mg base A outer s H → BindsTo s (C.fd i) args ((C.pn i).zip us) → Vals vs us → spOf C k i vs H Q E →
    codeAny (model P w) A (.call (.ref (C.fa i)) args) (CR (L2.CX P w) outer P w H s Q E) s
def FnsOk (P : Program) (w : World) (K : PySem.W.Frag) (mg : Str → Option Value) (base : Heap) (k : Nat) : Prop := ∀ (i : Nat) (F : Fn), C.D.fs[i]? = some F → lamB C.D i = false → FnG C P w K mg base k i
/-- a lambda keeps it -/
structure LamG (P : Program) (w : World) (K : PySem.W.Frag) (mg : Str → Option Value) (base : Heap) (k i : Nat) : Prop where
  run : ∀ (A : Around) (outer : List Env) (s : Shared) (H : Hp) (us : List Value) (vs : List V) (Q : VK) (E : XK) (f c : Addr) (q : Str) (ps : Arguments) (body : Expr) (sc : Scope), Room (2 * k + 1) A → A.guards = some [] → Env0 P w K mg base A outer s H →
    C.lk i ps body sc → H f = some (LamO q ps body sc f c) → H c = some (LamX.CodeO c q) → Vals vs us → spOf C k i vs H Q E → codeAny (model P w) A (.call (.ref f) ⟨us, []⟩) (CR (L2.CX P w) outer P w H s Q E) s
def LamsOk (P : Program) (w : World) (K : PySem.W.Frag) (mg : Str → Option Value) (base : Heap) (k : Nat) : Prop := ∀ (i : Nat) (F : Fn), C.D.fs[i]? = some F → lamB C.D i = true → LamG C P w K mg base k i
def kwB (ps : List Str) (n : Nat) (ks : List Str) (pm : List Nat) : Bool := decide ks.Nodup && pm.all (fun j => decide (j < ks.length)) && decide (ps.drop n = pick pm ks) && decide (n ≤ ps.length) && ks.all fun x => decide (x ∈ pick pm ks)
def KwOk (K : PySem.W.Frag) (fd : FuncData) (ps : List Str) : Prop := ∀ (n : Nat) (ks : List Str) (pm : List Nat), kwB ps n ks pm = true → ∀ (s : Shared) (us ws : List Value), K.In s.heap → us.length = n → ws.length = ks.length → BindsTo s fd ⟨us, ks.zip ws⟩ (ps.zip (us ++ pick pm ws))
/-- what the top has left, by the numbers of the text -/
structure TxtOk (w : World) (K : PySem.W.Frag) (mg : Str → Option Value) : Prop where
  gf : ∀ (i : Nat) (x : Str), C.D.gn[i]? = some x → x ≠ "" → mg x = some (.ref (C.fa i)) ∧ PySem.W.keepIn K (.ref (C.fa i)) = true
  bs : ∀ x : Str, x ∈ C.D.bs → mg x = none
  gv : ∀ (k : Nat) (x : Str), C.D.gv[k]? = some x → ∃ v u w, mg x = some u ∧ RelV v u ∧ C.D.L.gs[k]? = some w ∧ ∀ Z n H, Rep C Z n H w v
  bnd : ∀ (i : Nat) (dfs : List (List W)) (ds : List W), C.D.dfs[i]? = some dfs → ds ∈ dfs → ∃ dsv dvs, Binds K (C.fd i) (C.pn i) dsv ∧ Vals dvs dsv ∧ ∀ Z n H, RepL C Z n H ds dvs
  cls : ∀ (c : Nat) (x : Str), C.D.cn[c]? = some x → Cls K (C.ca c) ∧ mg x = some (.ref (C.ca c)) ∧ (∀ f, f ∈ C.fl c → NoAttr K (C.ca c) f) ∧ (C.fl c).length < 1000
  mth : ∀ (m : Nat) (x : Str), C.D.mn[m]? = some x → ∃ c i, C.D.L.ms[m]? = some (c, i) ∧ Cls K (C.ca c) ∧ Meth K (C.ca c) x (C.fa i) ∧ x ∉ C.fl c
  ini : ∀ (c k n : Nat), C.D.L.inits[c]? = some (k, n) → Mk K (C.ca c) (C.fa k) ∧ n = (C.fl c).length ∧ (C.fl c).Nodup
  kbn : ∀ (i : Nat) (F : Fn), C.D.fs[i]? = some F → lamB C.D i = false → KwOk K (C.fd i) (C.pn i)
  dct : ∀ (k : Nat) (x : Str), C.D.dn[k]? = some x → ∃ (d : Addr) (es : Array DictEntry) (n : Nat) (kv : List (Str × Int)), mg x = some (.ref d) ∧ KDict K w d es n ∧ C.D.L.dicts[k]? = some kv ∧
    ∀ y : Str, match kv.find? fun p => decide (p.1 = y) with
      | some p => ∃ t, PySem.W.nsIn K d y = some (some (.int p.2 t))
      | none => PySem.W.nsIn K d y = some none
/-- what an error's __init__ keeps: one field is set -/
def initSp (A : Addr) (f : Str) : Sp := fun vs H Q _ => ∃ a y, vs = [.ref a, y] ∧ H a = some (exo a A none) ∧ ∀ dx, H dx = none → dx ≠ a → Q .non (upd (upd H dx (exd dx [(f, y)])) a (exo a A (some dx)))
structure ExcInit (P : Program) (w : World) (K : PySem.W.Frag) (mg : Str → Option Value) (base : Heap) (A : Addr) (f : Str) : Prop where
  T : OexC K A
  init : ∃ (fI : Addr) (fd : FuncData) (ps : List Str), PySem.W.findIn K (.ref A) "__init__" = some (some (.ref fI)) ∧ PySem.W.typeIn K (.ref fI) = some (.type "function") ∧ FnOk P w K mg base (L2.CX P w) 1 fI fd ps (initSp A f) ∧ Binds K fd ps []
/-- .. of the error classes: isinstance and except ask them rightly -/
structure ExcTxt (w : World) (K : PySem.W.Frag) (mg : Str → Option Value) : Prop where
  exc : ∀ (c : Nat) (x : Str), C.D.xn[c]? = some x → mg x = some (.ref (C.xa c)) ∧ ExcC K (C.xa c) ∧ PySem.W.findIn K (.ref (C.xa c)) (C.xf c) = some none
  sub : ∀ (c : Nat) (ds : List Nat), C.D.L.subs[c]? = some ds → ∀ (d : Nat) (x : Str), C.D.xn[d]? = some x → PySem.W.exmOne K (.ref (C.xa c)) (.ref (C.xa d)) = some (ds.contains d) ∧ PySem.W.kitOne K (.ref (C.xa c)) (.ref (C.xa d)) = some (ds.contains d)
/-- an error class that has no __init__ of its own -/
structure ExcBare (K : PySem.W.Frag) (A : Addr) : Prop where
  ex : PySem.W.excIn K A [.type "ValueError", .type "Exception", .type "BaseException", .type "object"] "ValueError.__new__" = true
  kC : PySem.W.keepIn K (.ref A) = true
  sb : PySem.W.subIn K (.ref A) (.type "BaseException") = some true
  ty : PySem.W.typeIn K (.ref A) = some (.type "type")
structure XF (k : Nat) (X : Cx) (Wx : WX) : Prop where
  K : X.K = C.K
  nd : X.N.Nodup
  calm : X.calm = true
  room : Room (2 * k + 2) X.A
  grd : X.A.guards = some []
  tk : Takes X Wx
  fns : FnsOk C X.prog X.w X.K X.mg X.base k
  lams : LamsOk C X.prog X.w X.K X.mg X.base k
  txt : TxtOk C X.w X.K X.mg
  ext : ExcTxt C X.w X.K X.mg
  exb : ∀ (c : Nat) (x : Str), C.D.xn[c]? = some x → C.xf c = "" → ExcBare X.K (C.xa c)
  exi : ∀ (c : Nat) (x : Str), C.D.xn[c]? = some x → C.xf c ≠ "" → ExcInit X.prog X.w X.K X.mg X.base (C.xa c) (C.xf c)
end
section
variable {C : Cn} {Wx : WX} {X : Cx} {k : Nat}
theorem run_len {L : Lib} {fs : List Fn} {i : Nat} {ws : List W} {G : Hh} (h : run L fs k i ws G ≠ .bad) : ∃ F, fs[i]? = some F ∧ ws.length = F.ps := by
  cases k with
  | zero => exact absurd rfl h
  | succ k =>
    simp only [run] at h
    cases e : fs[i]? with
    | none => rw [e] at h; exact absurd rfl h
    | some F =>
      rw [e] at h
      by_cases c : ws.length = F.ps
      · exact ⟨F, rfl, c⟩
      · simp only [if_neg c] at h; exact absurd rfl h
theorem okG.nbad {α β : Type} {σ : L2.St} {rel : Wit → Nat → Hp → α → β → Prop} {Z : Wit} {G : Hh} {H : Hp} {r : R α} {Q : β → Hp → Prop} (h : okG C Wx σ rel Z G H r Q) : r ≠ .bad := fun e => by
  rw [e] at h; exact h.elim
theorem okG.wish {α β : Type} {Wx' : WX} {σ σ' : L2.St} {rel : Wit → Nat → Hp → α → β → Prop} {Z : Wit} {G : Hh} {H : Hp} {r : R α} {Q : β → Hp → Prop} (h : okG C Wx σ rel Z G H r Q) (i : ∀ c d H, Wx c d σ H → Wx' c d σ' H) : okG C Wx' σ' rel Z G H r Q := by
  cases r with
  | ok a G' => exact h
  | ex c p G' => exact fun Z' H' d x e => i _ _ _ (h Z' H' d x e)
  | bad => exact h
theorem tG_bindN {α β γ δ : Type} {σ : L2.St} {rel : Wit → Nat → Hp → α → β → Prop} {rel2 : Wit → Nat → Hp → γ → δ → Prop} {ρ : Rho} {Z : Wit} {G : Hh} {H : Hp} {f : Rho → Hh → R α} {k : α → Hh → R γ} {Q : δ → Hp → Prop} {P : β → Hp → Prop}
    (st : StRep C Z G.length H ρ σ) (hr : HRep C Z G H) (h : okG C Wx σ rel2 Z G H ((f ρ G).noex.bind k) Q)
    (hk : ∀ a b Z1 G1 H1, Mid C rel ρ σ Z G H a b Z1 G1 H1 → okG C Wx σ rel2 Z1 G1 H1 (k a G1) Q → P b H1) : tG C Wx rel f σ H P := by
  refine ⟨ρ, Z, G, st, hr, ?_⟩
  cases e : f ρ G with
  | ok a G1 =>
    rw [e] at h
    exact fun Z1 H1 b x r => hk a b Z1 G1 H1 ⟨st.ext x hr, x.hr, x, r⟩ (okG.ext h x)
  | ex c p G1 =>
    rw [e] at h
    exact h.elim
  | bad =>
    rw [e] at h
    exact h.elim
/-- the callee runs -/
theorem runG {i : Nat} {F : Fn} {pins : List (Addr × Obj)} {σ : L2.St} {H : Hp} {s : Shared} {Q : VK} {us ds : List Value} {vs dvs : List V} {ws wd : List W} {Z : Wit} {G : Hh} (xf : XF C k X Wx) (hF : C.D.fs[i]? = some F) (hL : lamB C.D i = false)
    (hb : Binds X.K (C.fd i) (C.pn i) ds) (hd : Vals dvs ds) (I : Inv X pins σ H s) (r : Vals vs us) (hr : HRep C Z G H) (rw1 : RepL C Z G.length H ws vs) (rd : RepL C Z G.length H wd dvs)
    (h : okG C Wx σ (Rep C) Z G H (run C.D.L C.D.fs k i (ws ++ wd) G) Q) : wpAny (model X.prog X.w) X.A (call (.ref (C.fa i)) us) (EP X pins σ Q) X.xe s := by
  have f := xf.fns i F hF hL
  obtain ⟨F', hF', hl⟩ := run_len h.nbad
  have lp := f.len F' hF'
  have r2 : Vals (vs ++ dvs) (us ++ ds) := r.append hd
  have rw2 : RepL C Z G.length H (ws ++ wd) (vs ++ dvs) := rw1.append rd
  have hl2 : (us ++ ds).length = (C.pn i).length := by rw [← r2.length, ← rw2.length, hl, lp]
  refine wpAny_call (codeAny_mono (f.run X.A X.stack s H ⟨us, []⟩ (us ++ ds) (vs ++ dvs) Q (WE Wx σ) (xf.room.mono (by omega)) xf.grd I.env0 (hb s us I.kIn hl2) r2 ⟨ws ++ wd, Z, G, rw2, hr, h.wish fun _ _ _ q => q⟩) fun r s' hq => ?_)
  cases r with
  | error e => exact passAt xf.tk σ pins H s e s' I hq
  | ok fl =>
    cases fl with
    | ret u => exact I.after hq
    | next => exact False.elim hq
    | brk => exact False.elim hq
    | cont => exact False.elim hq
theorem pick_vals {vs : List V} {us : List Value} (r : Vals vs us) : ∀ {pm : List Nat}, Vals (pick pm vs) (pick pm us)
  | [] => .nil
  | j :: pm => by
    by_cases hj : j < vs.length
    · have hj2 : j < us.length := by rw [← r.length]; exact hj
      have e1 : pick (j :: pm) vs = vs[j] :: pick pm vs := by simp [pick, List.getElem?_eq_getElem hj]
      have e2 : pick (j :: pm) us = us[j] :: pick pm us := by simp [pick, List.getElem?_eq_getElem hj2]
      rw [e1, e2]
      obtain ⟨u, hu, ru⟩ := r.get (List.getElem?_eq_getElem hj)
      rw [List.getElem?_eq_getElem hj2] at hu
      cases hu
      exact .cons ru (pick_vals r)
    · have hj2 : ¬ j < us.length := by rw [← r.length]; exact hj
      have e1 : pick (j :: pm) vs = pick pm vs := by simp [pick, List.getElem?_eq_none (Nat.le_of_not_lt hj)]
      have e2 : pick (j :: pm) us = pick pm us := by simp [pick, List.getElem?_eq_none (Nat.le_of_not_lt hj2)]
      rw [e1, e2]
      exact pick_vals r
theorem pick_rep {Z : Wit} {n : Nat} {H : Hp} {ws : List W} {vs : List V} (r : RepL C Z n H ws vs) : ∀ {pm : List Nat}, RepL C Z n H (pick pm ws) (pick pm vs)
  | [] => .nil
  | j :: pm => by
    by_cases hj : j < ws.length
    · have hj2 : j < vs.length := by rw [← r.length]; exact hj
      have e1 : pick (j :: pm) ws = ws[j] :: pick pm ws := by simp [pick, List.getElem?_eq_getElem hj]
      have e2 : pick (j :: pm) vs = vs[j] :: pick pm vs := by simp [pick, List.getElem?_eq_getElem hj2]
      rw [e1, e2]
      obtain ⟨u, hu, ru⟩ := r.get (List.getElem?_eq_getElem hj)
      rw [List.getElem?_eq_getElem hj2] at hu
      cases hu
      exact .cons ru (pick_rep r)
    · have hj2 : ¬ j < vs.length := by rw [← r.length]; exact hj
      have e1 : pick (j :: pm) ws = pick pm ws := by simp [pick, List.getElem?_eq_none (Nat.le_of_not_lt hj)]
      have e2 : pick (j :: pm) vs = pick pm vs := by simp [pick, List.getElem?_eq_none (Nat.le_of_not_lt hj2)]
      rw [e1, e2]
      exact pick_rep r
/-- the callee runs, some values by keywords -/
theorem runGk {i : Nat} {F : Fn} {ks : List Str} {pm : List Nat} {pins : List (Addr × Obj)} {σ : L2.St} {H : Hp} {s : Shared} {Q : VK} {us zs : List Value} {vs xs : List V} {ws ys : List W} {Z : Wit} {G : Hh} (xf : XF C k X Wx) (hF : C.D.fs[i]? = some F) (hL : lamB C.D i = false)
    (hw : kwB (C.pn i) us.length ks pm = true) (hz : zs.length = ks.length) (I : Inv X pins σ H s) (r : Vals vs us) (rz : Vals xs zs) (hr : HRep C Z G H) (rw1 : RepL C Z G.length H ws vs) (rd : RepL C Z G.length H ys xs)
    (h : okG C Wx σ (Rep C) Z G H (run C.D.L C.D.fs k i (ws ++ pick pm ys) G) Q) : wpAny (model X.prog X.w) X.A (call (.ref (C.fa i)) us (ks.zip zs)) (EP X pins σ Q) X.xe s := by
  have f := xf.fns i F hF hL
  have r2 : Vals (vs ++ pick pm xs) (us ++ pick pm zs) := r.append (pick_vals rz)
  have rw2 : RepL C Z G.length H (ws ++ pick pm ys) (vs ++ pick pm xs) := rw1.append (pick_rep rd)
  refine wpAny_call (codeAny_mono (f.run X.A X.stack s H ⟨us, ks.zip zs⟩ (us ++ pick pm zs) (vs ++ pick pm xs) Q (WE Wx σ) (xf.room.mono (by omega)) xf.grd I.env0 (xf.txt.kbn i F hF hL us.length ks pm hw s us zs I.kIn rfl hz) r2 ⟨ws ++ pick pm ys, Z, G, rw2, hr, h.wish fun _ _ _ q => q⟩) fun r s' hq => ?_)
  cases r with
  | error e => exact passAt xf.tk σ pins H s e s' I hq
  | ok fl =>
    cases fl with
    | ret u => exact I.after hq
    | next => exact False.elim hq
    | brk => exact False.elim hq
    | cont => exact False.elim hq
theorem has_gn {x : Str} {i : Nat} (xf : XF C k X Wx) (e : C.D.gn[i]? = some x) (h : x ≠ "") : X.mg x = some (.ref (C.fa i)) ∧ PySem.W.keepIn X.K (.ref (C.fa i)) = true := xf.txt.gf i x e h
/-- f(e, ..) -/
theorem s_call {i : Nat} {F : Fn} {dfs : List (List W)} {wd : List W} {x : Str} {e : Expr} {es : List Expr} {p pos : Pos} {f : Rho → Hh → R (List W)} (xf : XF C k X Wx) (hF : C.D.fs[i]? = some F) (hL : lamB C.D i = false) (hx : C.D.gn[i]? = some x) (hne : x ≠ "") (hg : Gl X x)
    (hdf : C.D.dfs[i]? = some dfs) (hwd : wd ∈ dfs) (hdb : (x == ("__debug__" : Str)) = false) (hs : noStar (e :: es) = true) (ha : PA X (e :: es) (tA C Wx f)) :
    PE X (.Call (.Name x p) (e :: es) [] pos) (tE C Wx fun ρ G => (f ρ G).bind fun xs G1 => run C.D.L C.D.fs k i (xs ++ wd) G1) := by
  obtain ⟨hm, hk⟩ := has_gn xf hx hne
  obtain ⟨dsv, dvs, hb, hd, rd⟩ := xf.txt.bnd i dfs wd hdf hwd
  rw [noStar, Bool.and_eq_true, Bool.not_eq_true'] at hs
  refine ⟨fun pins s σ H Q I ⟨ρ, Z, G, st, hr, h⟩ => ?_⟩
  refine wpAny_Call_Name_kw (ld_glob I hg hm ?_ hdb)
  refine PySem.W.callWith_K (h₀ := X.base) I.ok.mod.kin hk (thn (ha.run pos pins s σ H (fun vs H1 => ∃ xs Z1 G1, RepL C Z1 G1.length H1 xs vs ∧ HRep C Z1 G1 H1 ∧ okG C Wx σ (Rep C) Z1 G1 H1 (run C.D.L C.D.fs k i (xs ++ wd) G1) Q) I ?_) fun us s1 ⟨vs, H1, I1, r, xs, Z1, G1, rx, hr1, h1⟩ => ?_) (star_plain hs.1) (noStar_back hs.2)
  · exact tG_bind st hr h fun xs vs Z1 G1 H1 m h1 => ⟨xs, Z1, G1, m.rep, m.hr, h1⟩
  · exact ⟨I1.kIn, runG xf hF hL hb hd I1 r hr1 rx (rd _ _ _) h1⟩
theorem s_call0 {i : Nat} {F : Fn} {dfs : List (List W)} {wd : List W} {x : Str} {p pos : Pos} (xf : XF C k X Wx) (hF : C.D.fs[i]? = some F) (hL : lamB C.D i = false) (hx : C.D.gn[i]? = some x) (hne : x ≠ "") (hg : Gl X x)
    (hdf : C.D.dfs[i]? = some dfs) (hwd : wd ∈ dfs) (hdb : (x == ("__debug__" : Str)) = false) :
    PE X (.Call (.Name x p) [] [] pos) (tE C Wx fun ρ G => (R.ok [] G : R (List W)).bind fun xs G1 => run C.D.L C.D.fs k i (xs ++ wd) G1) := by
  obtain ⟨hm, hk⟩ := has_gn xf hx hne
  obtain ⟨dsv, dvs, hb, hd, rd⟩ := xf.txt.bnd i dfs wd hdf hwd
  refine ⟨fun pins s σ H Q I ⟨ρ, Z, G, st, hr, h⟩ => ?_⟩
  refine wpAny_Call_Name_kw (ld_glob I hg hm ?_ hdb)
  exact PySem.W.callWith_K0 I.kIn hk (runG (us := []) xf hF hL hb hd I .nil hr .nil (rd _ _ _) h)
/-- x(e, ..), x a name of the def that holds a def or a lambda -/
theorem plainFB_ok {i : Nat} (h : plainFB C.D i = true) : ∃ F x dfs, C.D.fs[i]? = some F ∧ lamB C.D i = false ∧ C.D.gn[i]? = some x ∧ x ≠ "" ∧ C.D.dfs[i]? = some dfs ∧ [] ∈ dfs := by
  simp only [plainFB, Bool.and_eq_true, Bool.not_eq_true'] at h
  obtain ⟨⟨⟨h1, h2⟩, h3⟩, h4⟩ := h
  obtain ⟨F, hF⟩ := Option.isSome_iff_exists.mp h1
  cases e1 : C.D.gn[i]? with
  | none => rw [e1] at h3; cases h3
  | some x =>
    cases e2 : C.D.dfs[i]? with
    | none => rw [e2] at h4; cases h4
    | some dfs =>
      rw [e1] at h3
      rw [e2] at h4
      obtain ⟨y, hy, hy2⟩ := List.any_eq_true.mp h4
      obtain rfl := List.isEmpty_iff.mp hy2
      exact ⟨F, x, dfs, hF, h2, rfl, by simpa using h3, rfl, hy⟩
theorem run_some {L : Lib} {fs : List Fn} {k i : Nat} {ws : List W} {G : Hh} (h : run L fs k i ws G ≠ .bad) : ∃ F, fs[i]? = some F := (run_len h).imp fun _ a => a.1
theorem s_callV {j : Nat} {x : Str} {e : Expr} {es : List Expr} {p pos : Pos} {f : Rho → Hh → R (List W)} (xf : XF C k X Wx) (hN : X.N[j]? = some x) (hv : Vis X.env.scope x) (hdb : (x == ("__debug__" : Str)) = false) (hcd : (x == ("__classdict__" : Str)) = false)
    (hs : noStar (e :: es) = true) (ha : PA X (e :: es) (tA C Wx f)) :
    PE X (.Call (.Name x p) (e :: es) [] pos) (tE C Wx fun ρ G => match getS ρ j with
      | some (.fn i) => (f ρ G).noex.bind fun xs G1 => run C.D.L C.D.fs k i xs G1
      | some (.lam i) => (f ρ G).noex.bind fun xs G1 => run C.D.L C.D.fs k i xs G1
      | _ => .bad) := by
  rw [noStar, Bool.and_eq_true, Bool.not_eq_true'] at hs
  refine ⟨fun pins s σ H Q I ⟨ρ, Z, G, st, hr, h⟩ => ?_⟩
  cases q : getS ρ j with
  | none => simp only [q] at h; exact h.elim
  | some w =>
    cases w with
    | fn i =>
      simp only [q] at h
      obtain ⟨v, hσ, rv⟩ := st.get q
      cases rv
      rename_i pl
      refine wpAny_Call_Name_kw (thn ((pe_var (pos := p) hN hv hdb hcd).run pins s σ H (fun v H1 => v = .ref (C.fa i) ∧ H1 = H) I ⟨_, hσ, rfl, rfl⟩) fun u s1 ⟨v, H1, I1, r1, ev, eH⟩ => ?_)
      subst ev
      subst eH
      obtain rfl : u = Value.ref (C.fa i) := r1
      obtain ⟨F, xg, dfs, hF, hL, hx, hne, hdf, hm0⟩ := plainFB_ok pl
      obtain ⟨hm, hk⟩ := has_gn xf hx hne
      obtain ⟨dsv, dvs, hb, hd, rd⟩ := xf.txt.bnd i dfs [] hdf hm0
      refine PySem.W.callWith_K (h₀ := X.base) I1.ok.mod.kin hk (thn (ha.run pos pins s1 σ H1 (fun vs H2 => ∃ xs Z1 G1, RepL C Z1 G1.length H2 xs vs ∧ HRep C Z1 G1 H2 ∧ okG C Wx σ (Rep C) Z1 G1 H2 (run C.D.L C.D.fs k i (xs ++ []) G1) Q) I1 ?_) fun us s2 ⟨vs, H2, I2, r, xs, Z1, G1, rx, hr1, h1⟩ => ?_) (star_plain hs.1) (noStar_back hs.2)
      · exact tG_bindN st hr h fun xs vs Z1 G1 H2 m h1 => ⟨xs, Z1, G1, m.rep, m.hr, by rw [List.append_nil]; exact h1⟩
      · exact ⟨I2.kIn, runG xf hF hL hb hd I2 r hr1 rx (rd _ _ _) h1⟩
    | lam i =>
      simp only [q] at h
      obtain ⟨v, hσ, rv⟩ := st.get q
      cases rv
      rename_i f0 c0 q0 ps0 body0 sc0 hf0 hc0 lk0
      obtain ⟨hL, lk0⟩ := lk0
      refine wpAny_Call_Name_kw (thn ((pe_var (pos := p) hN hv hdb hcd).run pins s σ H (fun v H1 => v = .ref f0 ∧ H1 = H) I ⟨_, hσ, rfl, rfl⟩) fun u s1 ⟨v, H1, I1, r1, ev, eH⟩ => ?_)
      subst ev
      subst eH
      obtain rfl : u = Value.ref f0 := r1
      have fat : ∀ {σ' : L2.St} {H' : Hp} {s' : Shared}, Inv X pins σ' H' s' → H' f0 = some (LamO q0 ps0 body0 sc0 f0 c0) → PySem.W.FnAt f0 s'.heap := fun I' e => by
        obtain ⟨⟨pm, ctv, ho⟩, _, _⟩ := I'.hok f0 _ e
        exact ⟨_, _, _, _, ho⟩
      refine PySem.W.callWith_F (fat I1 hf0) (thn (ha.run pos pins s1 σ H1 (fun vs H2 => ∃ xs Z1 G1, RepL C Z1 G1.length H2 xs vs ∧ HRep C Z1 G1 H2 ∧ H2 f0 = some (LamO q0 ps0 body0 sc0 f0 c0) ∧ H2 c0 = some (LamX.CodeO c0 q0) ∧ okG C Wx σ (Rep C) Z1 G1 H2 (run C.D.L C.D.fs k i xs G1) Q) I1 ?_) fun us s2 ⟨vs, H2, I2, r, xs, Z1, G1, rx, hr1, hf1, hc1, h1⟩ => ?_) (star_plain hs.1) (noStar_back hs.2)
      · exact tG_bindN st hr h fun xs vs Z1 G1 H2 m h1 => ⟨xs, Z1, G1, m.rep, m.hr, m.x.exo hr hf0, m.x.exo hr hc0, h1⟩
      · obtain ⟨F, hF⟩ := run_some h1.nbad
        refine ⟨fat I2 hf1, wpAny_call (codeAny_mono ((xf.lams i F hF hL).run X.A X.stack s2 H2 us vs Q (WE Wx σ) f0 c0 q0 ps0 body0 sc0 (xf.room.mono (by omega)) xf.grd I2.env0 lk0 hf1 hc1 r ⟨xs, Z1, G1, rx, hr1, h1.wish fun _ _ _ q => q⟩) fun r s' hq => ?_)⟩
        cases r with
        | error e => exact passAt xf.tk σ pins H2 s2 e s' I2 hq
        | ok fl =>
          cases fl with
          | ret u => exact I2.after hq
          | next => exact False.elim hq
          | brk => exact False.elim hq
          | cont => exact False.elim hq
    | _ => simp only [q] at h; exact h.elim
/-! ### instances -/
theorem guards_make {A : Around} {c : Addr} {us : List Value} {kw : List (Str × Value)} (h : A.guards = some []) : (A.under (.builtin "type.__call__" ⟨.ref c :: us, kw⟩)).guards = some [] := by
  first
    | (show pushGuards _ A.guards = some []; rw [h]; rfl)
    | simpa [Around.under, Code.guards, Code.isGuard, pushGuards, guardIds] using h
theorem fld_rep {Z : Wit} {n : Nat} {H : Hp} {names : List Str} {fs : List (Option W)} {fv : List (Str × V)} {j : Nat} {f : Str} {w : W} (r : FldRep C Z n H names fs fv) (hj : names[j]? = some f) (e : getS fs j = some w) : ∃ v, fv.lookup f = some v ∧ Rep C Z n H w v := by
  unfold getS at e
  split at e
  · rename_i u hu
    cases e
    exact r.yes j f _ hj hu
  · cases e
theorem insOf_inv {Z : Wit} {G : Hh} {H : Hp} {c : Nat} {x : W} {v : V} {fs : List (Option W)} (hr : HRep C Z G H) (r : Rep C Z G.length H x v) (e : insOf c x G = some fs) :
    ∃ n dx fv, x = .ref n ∧ v = .ref (Z.α n) ∧ n < G.length ∧ G[n]? = some (.ins c fs) ∧ H (Z.α n) = some (.ins (C.ca c) dx fv) ∧ FldRep C Z G.length H (C.fl c) fs fv ∧ Z.S (Z.α n) := by
  cases r with
  | ref hm =>
    rename_i n
    simp only [insOf] at e
    cases q : G[n]? with
    | none => rw [q] at e; cases e
    | some d =>
      rw [q] at e
      cases d with
      | ins d gs =>
        simp only at e
        by_cases hc : c = d
        · rw [if_pos hc] at e
          cases e
          subst hc
          obtain ⟨dx, fv, h1, h2, h3⟩ := hr.cells n _ q
          exact ⟨n, dx, fv, rfl, rfl, hm, q, h1, h2, h3⟩
        · rw [if_neg hc] at e; cases e
      | _ => cases e
  | _ => cases e
/-- o.f -/
theorem s_fld {a : Expr} {x f : Str} {c j : Nat} {g : Rho → Hh → R W} {pos : Pos} (xf : XF C k X Wx) (hb : attributeBase a f X.env (eval a X.env) = eval a X.env) (ha : PE X a (tE C Wx g)) (hc : C.D.cn[c]? = some x) (hj : (C.fl c)[j]? = some f) :
    PE X (.Attribute a f pos) (tE C Wx fun ρ G => (g ρ G).bind fun x G1 => ofO ((insOf c x G1).bind fun fs => getS fs j) G1) := by
  refine PE.mono (pe_fld ha hb) fun σ H Q ⟨ρ, Z, G, st, hr, h⟩ => tG_bind st hr h fun y v Z1 G1 H1 m h1 => ?_
  obtain ⟨w, e, h2⟩ := okG.ofO_inv h1
  obtain ⟨fs, e1, e2⟩ := Option.bind_eq_some_iff.mp e
  obtain ⟨n, dx, fv, rfl, rfl, hn, hG, h3, h4, h5⟩ := insOf_inv m.hr m.rep e1
  obtain ⟨hcl, _, hna, _⟩ := xf.txt.cls c x hc
  obtain ⟨u, hu, ru⟩ := fld_rep h4 hj e2
  exact ⟨Z1.α n, C.ca c, dx, fv, u, rfl, h3, hcl, hna f (List.mem_of_getElem? hj), hu, okG.here m.hr h2 ru⟩
/-- a method's receiver, then the call -/
theorem s_meth {mi c i : Nat} {F : Fn} {dfs : List (List W)} {o : Expr} {x m : Str} {e : Expr} {es : List Expr} {apos pos : Pos} {g : Rho → Hh → R W} {f : Rho → Hh → R (List W)} {pl : Sem Bool} (xf : XF C k X Wx) (hi : C.D.L.ms[mi]? = some (c, i)) (hx : C.D.mn[mi]? = some m) (hF : C.D.fs[i]? = some F) (hL : lamB C.D i = false)
    (hdf : C.D.dfs[i]? = some dfs) (hwd : [] ∈ dfs) (ho : PE X o (tE C Wx g)) (hs : noStar (e :: es) = true) (ha : PA X (e :: es) (tA C Wx f))
    (ht : eval (.Call (.Attribute o m apos) (e :: es) [] pos) X.env = (do
      let ov ← eval o X.env
      standAt apos.atName
      let (f, first) ← holding [ov] (getMethod ov m pl)
      callWith pos f first (backTo pos (starEach (e :: es) X.env)) (backToKw pos (keywordEach [] X.env)))) :
    PE X (.Call (.Attribute o m apos) (e :: es) [] pos) (tE C Wx fun ρ G => (g ρ G).bind fun y G1 => match C.D.L.ms[mi]? with
      | some ck => if (insOf ck.1 y G1).isSome then (f ρ G1).bind fun xs G2 => run C.D.L C.D.fs k ck.2 (y :: xs) G2 else .bad
      | none => .bad) := by
  obtain ⟨c', i', hi', hcl, hme, hnf⟩ := xf.txt.mth mi m hx
  rw [hi] at hi'
  cases hi'
  obtain ⟨dsv, dvs, hb, hd, rd⟩ := xf.txt.bnd i dfs [] hdf hwd
  rw [noStar, Bool.and_eq_true, Bool.not_eq_true'] at hs
  refine ⟨fun pins s σ H Q I ⟨ρ, Z, G, st, hr, h⟩ => ?_⟩
  refine PySem.W.methodCall_KW (pl := pl) (thn (ho.run pins s σ H (fun v H1 => ∃ y Z1 G1, Mid C (Rep C) ρ σ Z G H y v Z1 G1 H1 ∧ (insOf c y G1).isSome = true ∧ okG C Wx σ (Rep C) Z1 G1 H1 ((f ρ G1).bind fun xs G2 => run C.D.L C.D.fs k i (y :: xs) G2) Q) I ?_) fun u s1 ⟨v, H1, I1, rv, y, Z1, G1, m1, his, h1⟩ => ?_) ht
  · refine tG_bind st hr h fun y v Z1 G1 H1 m1 h1 => ?_
    simp only [hi] at h1
    obtain ⟨q, h1⟩ := okG.if_inv h1
    exact ⟨y, Z1, G1, m1, q, h1⟩
  · obtain ⟨fs, e1⟩ := Option.isSome_iff_exists.mp his
    obtain ⟨n, dx, fv, rfl, rfl, hn, hG, h3, h4, h5⟩ := insOf_inv m1.hr m1.rep e1
    obtain rfl : u = Value.ref (Z1.α n) := rv
    refine getmeth_ok I1 h3 hcl hme (h4.out m hnf) ?_
    refine PySem.W.callWith_K (first := [.ref (Z1.α n)]) (h₀ := X.base) I1.ok.mod.kin hme.kp (thn (ha.run pos pins s1 σ H1 (fun vs H2 => ∃ xs Z2 G2, RepL C Z2 G2.length H2 (.ref n :: xs) (.ref (Z1.α n) :: vs) ∧ HRep C Z2 G2 H2 ∧ okG C Wx σ (Rep C) Z2 G2 H2 (run C.D.L C.D.fs k i ((.ref n :: xs) ++ []) G2) Q) I1 ?_)
      fun us s2 ⟨vs, H2, I2, r, xs, Z2, G2, rx, hr2, h2⟩ => ?_) (star_plain hs.1) (noStar_back hs.2)
    · exact tG_bind m1.st m1.hr h1 fun xs vs Z2 G2 H2 m2 h2 => ⟨xs, Z2, G2, .cons (m1.rep.ext m2.x m1.hr) m2.rep, m2.hr, by rw [List.append_nil]; exact h2⟩
    · exact ⟨I2.kIn, runG xf hF hL hb hd I2 (us := .ref (Z1.α n) :: us) (vs := .ref (Z1.α n) :: vs) (.cons rfl r) hr2 rx (rd _ _ _) h2⟩
theorem s_meth0 {mi c i : Nat} {F : Fn} {dfs : List (List W)} {o : Expr} {x m : Str} {apos pos : Pos} {g : Rho → Hh → R W} {pl : Sem Bool} (xf : XF C k X Wx) (hi : C.D.L.ms[mi]? = some (c, i)) (hx : C.D.mn[mi]? = some m) (hF : C.D.fs[i]? = some F) (hL : lamB C.D i = false)
    (hdf : C.D.dfs[i]? = some dfs) (hwd : [] ∈ dfs) (ho : PE X o (tE C Wx g))
    (ht : eval (.Call (.Attribute o m apos) [] [] pos) X.env = (do
      let ov ← eval o X.env
      standAt apos.atName
      let (f, first) ← holding [ov] (getMethod ov m pl)
      callWith pos f first (backTo pos (starEach [] X.env)) (backToKw pos (keywordEach [] X.env)))) :
    PE X (.Call (.Attribute o m apos) [] [] pos) (tE C Wx fun ρ G => (g ρ G).bind fun y G1 => match C.D.L.ms[mi]? with
      | some ck => if (insOf ck.1 y G1).isSome then (R.ok [] G1 : R (List W)).bind fun xs G2 => run C.D.L C.D.fs k ck.2 (y :: xs) G2 else .bad
      | none => .bad) := by
  obtain ⟨c', i', hi', hcl, hme, hnf⟩ := xf.txt.mth mi m hx
  rw [hi] at hi'
  cases hi'
  obtain ⟨dsv, dvs, hb, hd, rd⟩ := xf.txt.bnd i dfs [] hdf hwd
  refine ⟨fun pins s σ H Q I ⟨ρ, Z, G, st, hr, h⟩ => ?_⟩
  refine PySem.W.methodCall_KW (pl := pl) (thn (ho.run pins s σ H (fun v H1 => ∃ y Z1 G1, Mid C (Rep C) ρ σ Z G H y v Z1 G1 H1 ∧ (insOf c y G1).isSome = true ∧ okG C Wx σ (Rep C) Z1 G1 H1 (run C.D.L C.D.fs k i ([y] ++ []) G1) Q) I ?_) fun u s1 ⟨v, H1, I1, rv, y, Z1, G1, m1, his, h1⟩ => ?_) ht
  · refine tG_bind st hr h fun y v Z1 G1 H1 m1 h1 => ?_
    simp only [hi] at h1
    obtain ⟨q, h1⟩ := okG.if_inv h1
    exact ⟨y, Z1, G1, m1, q, h1⟩
  · obtain ⟨fs, e1⟩ := Option.isSome_iff_exists.mp his
    obtain ⟨n, dx, fv, rfl, rfl, hn, hG, h3, h4, h5⟩ := insOf_inv m1.hr m1.rep e1
    obtain rfl : u = Value.ref (Z1.α n) := rv
    refine getmeth_ok I1 h3 hcl hme (h4.out m hnf) ?_
    exact PySem.W.callWith_K0 (first := [.ref (Z1.α n)]) I1.kIn hme.kp (runG xf hF hL hb hd I1 (us := [.ref (Z1.α n)]) (vs := [.ref (Z1.α n)]) (.cons rfl .nil) m1.hr (.cons m1.rep .nil) (rd _ _ _) h1)
end
end PI
end

section
set_option autoImplicit false
set_option maxHeartbeats 1000000
/-! PI6b: calls by keywords alone. -/
namespace PI
open PySem L2
section
variable {C : Cn} {k : Nat} {X : Cx} {Wx : WX}
theorem PK.mono {kws : List Keyword} {t t' : TA} (h : PK X kws t) (i : ∀ σ H Q, t' σ H Q → t σ H Q) : PK X kws t' := ⟨fun pos pins s σ H Q I q => h.run pos pins s σ H Q I (i σ H Q q)⟩
def kwNames (kws : List Keyword) : List Str := kws.filterMap (·.arg)
theorem kw_facts {pos : Pos} {env : Env} : ∀ {kws : List Keyword}, kws.all (·.arg.isSome) = true → (backToKw pos (keywordEach kws env)).all (·.1.isSome) = true ∧ (backToKw pos (keywordEach kws env)).filterMap (·.1) = kwNames kws ∧ (backToKw pos (keywordEach kws env)).any (·.1.isNone) = false ∧ (kwNames kws).length = kws.length
  | [], _ => ⟨rfl, rfl, rfl, rfl⟩
  | ⟨nm, v, q⟩ :: kws, h => by
    simp only [List.all_cons, Bool.and_eq_true] at h
    obtain ⟨i1, i2, i3, i4⟩ := kw_facts (pos := pos) (env := env) (kws := kws) h.2
    cases nm with
    | none => cases h.1
    | some nm =>
      refine ⟨?_, ?_, ?_, ?_⟩
      · exact i1
      · show nm :: _ = nm :: _
        exact congrArg (nm :: ·) i2
      · exact i3
      · show (kwNames kws).length + 1 = kws.length + 1
        rw [i4]
variable (C Wx) in
def tAn (n : Nat) (f : Rho → Hh → R (List W)) : TA := fun σ H Q => tA C Wx f σ H fun vs H1 => vs.length = n → Q vs H1
theorem s_knil : PK X [] (tAn C Wx 0 fun _ G => .ok [] G) :=
  PK.mono pk_nil fun σ H Q ⟨ρ, Z, G, st, hr, h⟩ => okG.here (rel := RepL C) hr h .nil rfl
theorem s_kcons {nm : Option Str} {q : Pos} {n : Nat} {e : Expr} {kws : List Keyword} {f : Rho → Hh → R W} {g : Rho → Hh → R (List W)} (he : PE X e (tE C Wx f)) (hes : PK X kws (tAn C Wx n g)) :
    PK X (⟨nm, e, q⟩ :: kws) (tAn C Wx (n + 1) fun ρ G => (f ρ G).bind fun x G1 => (g ρ G1).bind fun xs G2 => .ok (x :: xs) G2) :=
  PK.mono (pk_cons he hes) fun σ H Q ⟨ρ, Z, G, st, hr, h⟩ => tG_bind st hr h fun x v Z1 G1 H1 m h1 => tG_bind m.st m.hr h1 fun xs vs Z2 G2 H2 m2 h2 => fun hl =>
    okG.here (rel := RepL C) m2.hr h2 (.cons (m.rep.ext m2.x m.hr) m2.rep) (by rw [List.length_cons, hl])
theorem s_callK0 {i : Nat} {F : Fn} {pm : List Nat} {x : Str} {kws : List Keyword} {p pos : Pos} {g : Rho → Hh → R (List W)} (xf : XF C k X Wx) (hF : C.D.fs[i]? = some F) (hL : lamB C.D i = false) (hx : C.D.gn[i]? = some x) (hne : x ≠ "") (hg : Gl X x)
    (hw : kwB (C.pn i) 0 (kwNames kws) pm = true) (hall : kws.all (·.arg.isSome) = true) (hdb : (x == ("__debug__" : Str)) = false) (hks : PK X kws (tAn C Wx kws.length g)) :
    PE X (.Call (.Name x p) [] kws pos) (tE C Wx fun ρ G => (R.ok [] G : R (List W)).bind fun xs G1 => (g ρ G1).bind fun ys G2 => run C.D.L C.D.fs k i (xs ++ pick pm ys) G2) := by
  obtain ⟨hm, hk⟩ := has_gn xf hx hne
  refine ⟨fun pins s σ H Q I ⟨ρ, Z, G, st, hr, h⟩ => ?_⟩
  obtain ⟨a1, a2, a3, a4⟩ := kw_facts (pos := pos) (env := X.env) hall
  refine wpAny_Call_Name_kw (ld_glob I hg hm ?_ hdb)
  refine PySem.W.callWith_KW0 I.kIn hk a1 (thn (hks.run pos pins s σ H (fun vs H1 => vs.length = kws.length ∧ ∃ xs Z1 G1, RepL C Z1 G1.length H1 xs vs ∧ HRep C Z1 G1 H1 ∧ okG C Wx σ (Rep C) Z1 G1 H1 (run C.D.L C.D.fs k i (pick pm xs) G1) Q) I ?_) fun us s1 ⟨vs, H1, I1, r, hl, xs, Z1, G1, rx, hr1, h1⟩ => ?_) a3
  · exact tG_bind st hr h fun xs vs Z1 G1 H1 m h1 => fun hl => ⟨hl, xs, Z1, G1, m.rep, m.hr, h1⟩
  · refine ⟨I1.kIn, ?_⟩
    rw [a2]
    exact runGk (us := []) (vs := []) (ws := []) xf hF hL hw (by rw [a4, ← hl, r.length]) I1 .nil r hr1 .nil rx h1
end
end PI
end

section
set_option autoImplicit false
/-! PI7: new instances, dicts of the module, pop. -/
namespace PI
open PySem L2
section
variable {C : Cn} {Wx : WX} {X : Cx} {k : Nat}
/-- C() -/
theorem s_mk {c i n : Nat} {F : Fn} {dfs : List (List W)} {x : Str} {p pos : Pos} (xf : XF C k X Wx) (hx : C.D.cn[c]? = some x) (hi : C.D.L.inits[c]? = some (i, n)) (hF : C.D.fs[i]? = some F) (hL : lamB C.D i = false) (hdf : C.D.dfs[i]? = some dfs) (hwd : [] ∈ dfs)
    (hg : Gl X x) (hdb : (x == ("__debug__" : Str)) = false) :
    PE X (.Call (.Name x p) [] [] pos) (tE C Wx fun ρ G => match C.D.L.inits[c]? with
      | some (i, n) => (run C.D.L C.D.fs k i [.ref G.length] (G ++ [.ins c (List.replicate n none)])).bind fun y G1 => match y with
        | .non => .ok (.ref G.length) G1
        | _ => .bad
      | none => .bad) := by
  obtain ⟨M, hn, hnd⟩ := xf.txt.ini c i n hi
  obtain ⟨hcl, hm, _, _⟩ := xf.txt.cls c x hx
  obtain ⟨dsv, dvs, hb, hd, rd⟩ := xf.txt.bnd i dfs [] hdf hwd
  refine ⟨fun pins s σ H Q I ⟨ρ, Z, G, st, hr, h⟩ => ?_⟩
  simp only [hi] at h
  refine wpAny_Call_Name_kw (ld_glob I hg hm ?_ hdb)
  refine PySem.W.callWith_K0 I.kIn M.kp ?_
  have f := xf.fns i F hF hL
  -- the new instance
  have hp1 : H (s.heap.objs.size + 1) = none := I.hok.fresh (Nat.le_succ _)
  have hp0 : H s.heap.objs.size = none := I.hok.fresh (Nat.le_refl _)
  have ne : s.heap.objs.size ≠ s.heap.objs.size + 1 := Nat.ne_of_lt (Nat.lt_succ_self _)
  generalize hH2 : upd (upd H s.heap.objs.size (.own (s.heap.objs.size + 1))) (s.heap.objs.size + 1) (.ins (C.ca c) s.heap.objs.size []) = H2
  have I2 := Inv.made (C := C.ca c) I
  rw [hH2] at I2
  have same : ∀ b o, H b = some o → H2 b = some o := fun b o e => by
    rw [← hH2, upd_ne (ne_of_none e hp1), upd_ne (ne_of_none e hp0)]; exact e
  have at2 : H2 (s.heap.objs.size + 1) = some (.ins (C.ca c) s.heap.objs.size []) := by rw [← hH2, upd_same]
  have hfr : FldRep C (Z.more G.length (s.heap.objs.size + 1)) (G.length + 1) H2 (C.fl c) (List.replicate n none) [] := by
    refine ⟨by simp [hn], hnd, fun _ _ => rfl, fun _ _ _ _ => rfl, fun j f w _ e => ?_, by simp⟩
    rw [List.getElem?_replicate] at e
    by_cases q : j < n
    · rw [if_pos q] at e; cases e
    · rw [if_neg q] at e; cases e
  have xt := Ext.newc (c := Cell.ins c (List.replicate n none)) hr hp1 same ⟨s.heap.objs.size, [], at2, hfr, .inr rfl⟩ (by rw [at2]; simp)
  have ra : Rep C (Z.more G.length (s.heap.objs.size + 1)) (G ++ [Cell.ins c (List.replicate n none)]).length H2 (.ref G.length) (.ref (s.heap.objs.size + 1)) := by
    have e0 : (Z.more G.length (s.heap.objs.size + 1)).α G.length = s.heap.objs.size + 1 := if_pos rfl
    have e1 : Rep C (Z.more G.length (s.heap.objs.size + 1)) (G ++ [Cell.ins c (List.replicate n none)]).length H2 (.ref G.length) (.ref ((Z.more G.length (s.heap.objs.size + 1)).α G.length)) := .ref (by rw [List.length_append]; exact Nat.lt_succ_self _)
    rw [e0] at e1
    exact e1
  -- the call of __init__
  have nb : run C.D.L C.D.fs k i [.ref G.length] (G ++ [.ins c (List.replicate n none)]) ≠ .bad := fun e => by rw [e] at h; exact h.elim
  obtain ⟨F', hF', hl⟩ := run_len nb
  have lp := f.len F' hF'
  have r2 : Vals (V.ref (s.heap.objs.size + 1) :: dvs) (Value.ref (s.heap.objs.size + 1) :: dsv) := .cons rfl hd
  have rw2 : RepL C (Z.more G.length (s.heap.objs.size + 1)) (G ++ [Cell.ins c (List.replicate n none)]).length H2 ([.ref G.length] ++ []) ([V.ref (s.heap.objs.size + 1)] ++ dvs) := .cons ra (rd _ _ _)
  have hl2 : (Value.ref (s.heap.objs.size + 1) :: dsv).length = (C.pn i).length := by
    have e1 := rw2.length
    have e2 := r2.length
    simp only [List.append_nil, List.cons_append, List.nil_append] at e1
    rw [← e2, ← e1, hl, lp]
  refine wpAny_call (make_map (f := C.fa i) I.kIn M.makes M.init (beq_iff_eq.mp M.fn) (codeAny_mono (f.run _ X.stack _ _ ⟨[Value.ref (s.heap.objs.size + 1)], []⟩ (Value.ref (s.heap.objs.size + 1) :: dsv) (V.ref (s.heap.objs.size + 1) :: dvs)
    (fun v H3 => v = .non ∧ Q (.ref (s.heap.objs.size + 1)) H3) (WE Wx σ) (xf.room.make (C.ca c) [] []) (guards_make xf.grd) (I2.env0.make (C.ca c) [] []) (hb _ [Value.ref (s.heap.objs.size + 1)] I2.kIn hl2) r2
    ⟨[.ref G.length], _, _, rw2, xt.hr, ?_⟩) fun r s' hq' => ?_))
  · have h' := okG.ext h xt
    cases e : run C.D.L C.D.fs k i [.ref G.length] (G ++ [.ins c (List.replicate n none)]) with
    | ok a G1 =>
      rw [e] at h'
      refine fun Z3 H3 v x3 rv => ?_
      cases a with
      | non =>
        cases rv
        refine ⟨rfl, h' Z3 H3 _ x3 ?_⟩
        have := ra.ext x3 xt.hr
        exact this
      | _ => exact h'.elim
    | ex d q G1 =>
      rw [e] at h'
      exact fun Z3 H3 d x3 e3 => h' Z3 H3 d x3 e3
    | bad => exact nb e
  · cases r with
    | error e => exact passAt xf.tk σ pins _ _ e s' I2 hq'
    | ok fl =>
      cases fl with
      | ret u =>
        obtain ⟨v, H', I3, rv, ev, q3⟩ := I2.after hq'
        subst ev
        exact ⟨rv, ⟨V.ref (s.heap.objs.size + 1), H', I3, rfl, q3⟩⟩
      | next => exact False.elim hq'
      | brk => exact False.elim hq'
      | cont => exact False.elim hq'
/-! ### a dict of the module -/
theorem any_find {α : Type} (q : α → Bool) : ∀ l : List α, l.any q = (l.find? q).isSome
  | [] => rfl
  | a :: l => by
    rw [List.any_cons, List.find?_cons, any_find q l]
    cases q a <;> rfl
theorem s_inG {d : Nat} {a : Expr} {x : Str} {g : Rho → Hh → R W} {p pos : Pos} (xf : XF C k X Wx) (hx : C.D.dn[d]? = some x) (hg : Gl X x) (hdb : (x == ("__debug__" : Str)) = false) (ha : PE X a (tE C Wx g)) (hm : behindInMarks .In (.Name x p) = false) :
    PE X (.Compare a [.In] [.Name x p] pos) (tE C Wx fun ρ G => (g ρ G).bind fun x G1 => match x, C.D.L.dicts[d]? with
      | .str y, some kv => .ok (.bl (kv.any fun p => decide (p.1 = y))) G1
      | _, _ => .bad) := by
  obtain ⟨da, es, n, kv, hmg, D, hkv, hget⟩ := xf.txt.dct d x hx
  have hb : PE X (.Name x p) _ := pe_glob (v := .ref da) hg hmg (by rfl) hdb
  refine PE.mono (pe_cmpR (op_in_kd D) ha hb hm) fun σ H Q ⟨ρ, Z, G, st, hr, h⟩ => tG_bind st hr h fun y v Z1 G1 H1 m h1 => ?_
  cases y with
  | str y =>
    have rv := m.rep
    cases rv
    simp only [hkv] at h1
    have hq := hget y
    have e : (kv.any fun p => decide (p.1 = y)) = (kv.find? fun p => decide (p.1 = y)).isSome := any_find _ _
    rw [e] at h1
    cases q : kv.find? fun p => decide (p.1 = y) with
    | none =>
      rw [q] at hq h1
      exact ⟨y, none, rfl, rfl, hq, okG.here m.hr h1 (.bl _)⟩
    | some pr =>
      rw [q] at hq h1
      obtain ⟨t, hq⟩ := hq
      exact ⟨y, some _, rfl, rfl, hq, okG.here m.hr h1 (.bl _)⟩
  | _ => exact h1.elim
theorem s_ixG {d : Nat} {a : Expr} {x : Str} {g : Rho → Hh → R W} {p pos : Pos} (xf : XF C k X Wx) (hx : C.D.dn[d]? = some x) (hg : Gl X x) (hdb : (x == ("__debug__" : Str)) = false) (hp : PlainIx a) (ha : PE X a (tE C Wx g)) :
    PE X (.Subscript (.Name x p) a pos) (tE C Wx fun ρ G => (g ρ G).bind fun x G1 => match x, C.D.L.dicts[d]? with
      | .str y, some kv => ofO ((kv.find? fun p => decide (p.1 = y)).map fun p => .int p.2) G1
      | _, _ => .bad) := by
  obtain ⟨da, es, n, kv, hmg, D, hkv, hget⟩ := xf.txt.dct d x hx
  have hb : PE X (.Name x p) _ := pe_glob (v := .ref da) hg hmg (by rfl) hdb
  refine PE.mono (pe_ix ix_kdict hb ha hp) fun σ H Q ⟨ρ, Z, G, st, hr, h⟩ => ?_
  refine tG_bind st hr h fun y v Z1 G1 H1 m h1 => ?_
  cases y with
  | str y =>
    have rv := m.rep
    cases rv
    simp only [hkv] at h1
    have hq := hget y
    cases q : kv.find? fun p => decide (p.1 = y) with
    | none =>
      rw [q] at h1
      exact h1.elim
    | some pr =>
      rw [q] at hq h1
      obtain ⟨t, hq⟩ := hq
      exact ⟨da, y, .int pr.2, rfl, rfl, ⟨es, n, _, D.at_, D.lit, hq, t, rfl⟩, okG.here m.hr h1 (.int _)⟩
  | _ => exact h1.elim
end
end PI
end

section
set_option autoImplicit false
/-! PI8: what a loop walks. -/
namespace PI
open PySem L2 PyProof.Rows
open PySem.AutoSeq1 (wpAny_loadPart')
/-! ### enumerate(t), t a tuple -/
set_option maxHeartbeats 1000000 in
theorem meets_enum1 {v : Value} {o : Obj} {Hq : Heap → Prop} (B : Begins v o Hq) :
    Meets (Builtin.«enumerate.__new__» ⟨[.type "enumerate", v], []⟩) (fun _ R s => Hq s.heap ∧
      R (.ok (.ret (.ref (s.heap.push o).objs.size))) { s with heap := (s.heap.push o).push { cls := .type "enumerate", data := .fields #[.none, .bool false, .ref s.heap.objs.size, rawInt 0, .none, .none] } }) :=
  .of_wp fun prog w A R s hs => by
    obtain ⟨hp, gens, dr, tks, osv⟩ := s
    obtain ⟨hb, hs⟩ := hs
    have hsub := sub_enumerate
    have begin1 : ∀ {A' : Around} {E : Value → Shared → Prop} {Q : Value → Shared → Prop}, Q (.ref hp.objs.size) ⟨hp.push o, gens, dr, tks, osv⟩ → wpAny (model prog w) A' (pyIter v) Q E ⟨hp, gens, dr, tks, osv⟩ :=
      fun q => B.iter prog w _ _ ⟨hp, gens, dr, tks, osv⟩ _ hb q
    wp_walk using begin1
    refine wpAny_stack_any fun st => wpAny_pure ?_
    split
    · rename_i kind _ _ _ _ _
      cases (kind == Value.type "enumerate")
      · wp_walk using begin1
        exact ⟨_, rfl, hs⟩
      · wp_walk using begin1
        exact ⟨_, rfl, hs⟩
    · wp_walk using begin1
      exact ⟨_, rfl, hs⟩
section
variable {prog : Program} {w : World} {A : Around} {E : Value → Shared → Prop} {s : Shared}
theorem call_enumT {t : Addr} {items : Array Value} {Q : Value → Shared → Prop} (ht : s.heap.IsTuple t items)
    (h : ∀ h', IsEnum h' (s.heap.objs.size + 1) s.heap.objs.size 0 .none → h'.IsTupleIter s.heap.objs.size t 0 →
      (∀ b o, s.heap.get? b = some o → h'.get? b = some o) → Q (.ref (s.heap.objs.size + 1)) { s with heap := h' }) :
    wpAny (model prog w) A (call (.type "enumerate") [.ref t]) Q E s := by
  refine callType_new F.called_enumerate (by decide) (F.typeCall_enumerate_1 _) (F.newCall_enumerate_1 _) (fun obj => F.args_object_init_2 obj _) F.entry_enumerate_new
    (meets_enum1 (begins_tuple t items)) ⟨ht, ?_⟩
  have hz : (s.heap.push { cls := .type "tuple_iterator", data := .fields #[.ref t, .int 0 0] }).objs.size = s.heap.objs.size + 1 := Heap.size_push ..
  show _ ∧ _
  rw [hz]
  have he : IsEnum ((s.heap.push { cls := .type "tuple_iterator", data := .fields #[.ref t, .int 0 0] }).push
      { cls := .type "enumerate", data := .fields #[.none, .bool false, .ref s.heap.objs.size, rawInt 0, .none, .none] }) (s.heap.objs.size + 1) s.heap.objs.size 0 .none := by
    have z := Heap.get?_push_size (s.heap.push { cls := .type "tuple_iterator", data := .fields #[.ref t, .int 0 0] })
      (o := { cls := .type "enumerate", data := .fields #[.none, .bool false, .ref s.heap.objs.size, rawInt 0, .none, .none] }) rfl
    rw [hz] at z; exact z
  exact ⟨⟨_, he, rfl⟩, h _ he ⟨_, Heap.get?_push_of_some _ (Heap.get?_push_size _ rfl), rfl, rfl⟩ fun b o x => Heap.get?_push_of_some _ (Heap.get?_push_of_some _ x)⟩
end
def IteT (K : PySem.W.Frag) (a : Addr) : It :=
  ⟨fun i H => ∃ (xs : List V) (x : V), SqT K H a xs ∧ xs[i]? = some x, fun i H v H' => ∃ T x, v = .ref T ∧ H T = none ∧ H' = upd H T (.tup [.int (i : Nat), x]) ∧ ∀ xs, SqT K H a xs → xs[i]? = some x, fun i H => ∃ xs : List V, SqT K H a xs ∧ xs.length = i⟩
theorem turn_enumT {P : Program} {w : World} {K : PySem.W.Frag} {elts : List Expr} {kk : Nat} {tpos : Pos} (a e it : Addr) :
    Turn P w K (.Tuple elts kk tpos) (IteT K a) [e, it] e (fun i h => (∃ old, IsEnum h e it ((i : Nat) : Int) old) ∧ h.IsTupleIter it a i ∧ e ≠ it) where
  mem := by simp
  obj := fun i h st b hb => by
    obtain ⟨⟨old, he⟩, ⟨o, ho, hc, hd⟩, _⟩ := st
    have e' : b = e ∨ b = it := by simpa using hb
    rcases e' with rfl | rfl
    · exact ⟨_, he, fun v q => nomatch q⟩
    · exact ⟨o, ho, fun v q => by rw [hd] at q; cases q⟩
  keep := fun i h h' st k => by
    obtain ⟨⟨old, he⟩, hi, hne⟩ := st
    exact ⟨⟨old, k e (by simp) _ he⟩, hi.at fun o q => k it (by simp) o q, hne⟩
  item := by
    intro X hP hw hK hc i pins s σ H E I hf st hg
    subst hP hw hK
    obtain ⟨⟨old, he⟩, hit, hne⟩ := st
    obtain ⟨xs, x, hq, hx⟩ := hg
    obtain ⟨its, rv, p, hz⟩ := I.tuple hq
    obtain ⟨u, hu, ru⟩ := rv.get hx
    have htp : s.heap.IsTuple a its.toArray := p
    have hel : e < s.heap.objs.size := Heap.lt_size he
    have hil : it < s.heap.objs.size := by
      obtain ⟨_, q, _⟩ := hit
      exact Heap.lt_size q
    have hae : a ≠ e := fun z => by
      obtain ⟨o, q, c, _⟩ := htp
      rw [z, he] at q
      obtain rfl := Option.some.inj q
      exact absurd (Value.type.inj c) (by decide)
    have hai : a ≠ it := fun z => by
      obtain ⟨o, q, c, _⟩ := htp
      obtain ⟨o2, q2, c2, _⟩ := hit
      rw [z, q2] at q
      obtain rfl := Option.some.inj q
      rw [c] at c2
      exact absurd (Value.type.inj c2) (by decide)
    have hlt : i < its.toArray.size := by
      have := (List.getElem?_eq_some_iff.mp hu).1
      simpa using this
    refine wpAny_pyNext_enum_itemD (Draws.tuple (A := X.A.in1) (show X.A.in1.handled = none from I.ok.hd hc) it a hai its.toArray) he ⟨hit, htp⟩ hlt hne (by simp [Ne.symm hae, hne]) fun y h' tk hy ho hit' hT hsz hk => ?_
    have hyu : y = u := by
      have q : its[i]? = some y := by simpa using hy
      rw [hu] at q
      exact (Option.some.inj q).symm
    subst hyu
    refine ⟨_, rfl, wpAny_letOwnedTupleGo_enum (s := { s with heap := h', toks := tk + 1 }) ho fun h'' he' sb => ?_⟩
    have hT2 : h''.get? s.heap.objs.size = some { cls := .type "tuple", data := .seq #[.int i tk, y] } := (sb.2 _ (Nat.ne_of_gt hel)).trans hT
    have new : ObjOk X.prog X.w (upd H s.heap.objs.size (.tup [.int (i : Nat), x])) h'' s.heap.objs.size (.tup [.int (i : Nat), x]) :=
      ⟨by show 2 ≤ sizeLine; decide, [.int i tk, y], .cons ⟨_, rfl⟩ (.cons ru .nil), ⟨_, hT2, rfl, _, rfl⟩⟩
    have I1 : Inv X pins σ (upd H s.heap.objs.size (.tup [.int (i : Nat), x])) { s with heap := h'', toks := tk + 1 } :=
      I.turnedNew (ch := [e, it]) (fun b ob hb q => (sb.2 b (fun z => hb (by simp [z]))).trans (hk b ob (fun z => hb (by simp [z])) (fun z => hb (by simp [z])) q)) hf (Nat.le_refl _) new
    refine ⟨.ref s.heap.objs.size, _, I1, rfl, ⟨_, x, rfl, I.hok.fresh (Nat.le_refl _), rfl, fun ys hy => by rw [I.tuple_inj hy hq]; exact hx⟩, ⟨⟨y, ?_⟩, hit'.1.at fun o q => (sb.2 it (Ne.symm hne)).trans q, hne⟩, fun b hb => ?_⟩
    · have e1 : ((i + 1 : Nat) : Int) = (i : Int) + 1 := by omega
      rw [e1]
      exact he'
    · have hb' : b < s.heap.objs.size := by
        have e' : b = e ∨ b = it := by simpa using hb
        rcases e' with rfl | rfl
        · exact hel
        · exact hil
      rw [upd_ne (Nat.ne_of_lt hb')]
      exact (hf b hb).1
  done := by
    intro X hP hw hK hc i pins s σ H E I hf st hg
    subst hP hw hK
    obtain ⟨⟨old, he⟩, hit, hne⟩ := st
    obtain ⟨xs, hq, hx⟩ := hg
    obtain ⟨its, rv, p, hz⟩ := I.tuple hq
    have htp : s.heap.IsTuple a its.toArray := p
    have hai : a ≠ it := fun z => by
      obtain ⟨o, q, c, _⟩ := htp
      obtain ⟨o2, q2, c2, _⟩ := hit
      rw [z, q2] at q
      obtain rfl := Option.some.inj q
      rw [c] at c2
      exact absurd (Value.type.inj c2) (by decide)
    obtain ⟨f0, f1, f2, f3, f4, f5⟩ := hf it (by simp)
    have hl := rv.length
    have hn : its.toArray.size = i := by simp; omega
    have hit2 : s.heap.IsTupleIter it a its.toArray.size := by rw [hn]; exact hit
    exact wpAny_pyNext_enum_endD (Draws.tuple (A := X.A.in1) (show X.A.in1.handled = none from I.ok.hd hc) it a hai its.toArray) he ⟨hit2, htp⟩ fun h' eb => ⟨rfl, I.turned (t' := s.toks) (fun b o hb q => eb b o hb q) f0 f1 f3 f4 f5⟩
  self := fun A i s Q E st h => by
    obtain ⟨⟨_, he⟩, _⟩ := st
    exact wpAny_pyIter_enum he h

/-! ### readings -/
def iSeq (K : PySem.W.Frag) (tl : TE) : TI := fun σ H R => tl σ H fun x H1 => ∃ a, x = .ref a ∧ (((∃ xs, SqL K H1 a xs) ∧ R (Itl K a) H1) ∨ (∃ xs, SqT K H1 a xs) ∧ R (Itt K a) H1)
def iEnm (K : PySem.W.Frag) (ta : TA) : TI := fun σ H R => ta σ H fun vs H1 => ∃ a, vs = [.ref a] ∧ (((∃ xs, SqL K H1 a xs) ∧ R (Ite K a) H1) ∨ (∃ xs, SqT K H1 a xs) ∧ R (IteT K a) H1)
section
variable {X : Cx} {tg : Expr}
theorem it_one {pins : List (Addr × Obj)} {σ : L2.St} {H : Hp} {s : Shared} {R : It → Hp → Prop} {o : Obj} {J : It} {tn : Nat → Heap → Prop} (I : Inv X pins σ H s) (T : Turn X.prog X.w X.K tg J [s.heap.objs.size] s.heap.objs.size tn) (h0 : tn 0 (s.heap.push o)) (q : R J H) :
    PIE X pins σ tg R (.ref s.heap.objs.size) { s with heap := s.heap.push o } := by
  refine ⟨s.heap.objs.size, [s.heap.objs.size], _, J, H, rfl, I.kept (t' := s.toks) fun b u e => Heap.get?_push_of_some _ e, T, h0, fun b hb => ?_, q⟩
  obtain rfl : b = s.heap.objs.size := by simpa using hb
  exact I.fpOk (Nat.le_refl _) (I.hok.fresh (Nat.le_refl _))
theorem pi_sq {l : Expr} {tl : TE} (hl : PE X l tl) : L2.PI X tg l (iSeq X.K tl) := by
  refine ⟨fun pins s σ H R I h => ?_⟩
  refine thn (hl.run pins s σ H _ I h) fun v s1 ⟨x, H1, I1, r1, q1⟩ => ?_
  obtain ⟨a, e, q⟩ := q1
  subst e
  obtain rfl : v = Value.ref a := r1
  rcases q with ⟨⟨xs, hq⟩, q⟩ | ⟨⟨xs, hq⟩, q⟩
  · obtain ⟨its, rv, p, hz⟩ := I1.list hq
    exact wpAny_pyIter_list p.isList (it_one I1 (turn_list a _) ⟨_, Heap.get?_push_size _ rfl, rfl, rfl⟩ q)
  · obtain ⟨its, rv, p, hz⟩ := I1.tuple hq
    exact wpAny_pyIter_tuple (show s1.heap.IsTuple a its.toArray from p) (it_one I1 (turn_tuple a _) ⟨_, Heap.get?_push_size _ rfl, rfl, rfl⟩ q)
theorem pi_enm {e : Expr} {ta : TA} {p pos tpos : Pos} {elts : List Expr} {kk : Nat} (hg : Gl X "enumerate") (hm : X.mg "enumerate" = none) (ha : PA X [e] ta) (hs : starEach [e] X.env = [(false, eval e X.env)]) :
    L2.PI X (.Tuple elts kk tpos) (.Call (.Name "enumerate" p) [e] [] pos) (iEnm X.K ta) := by
  refine ⟨fun pins s σ H R I h => ?_⟩
  refine Call_ (ld_blt I hg hm boot_enumerate (PyProof.Rows.callWith_type1 (thn (ha.run pos pins s σ H _ I h) fun us s1 ⟨vs, H1, I1, r1, q1⟩ => ?_) hs rfl))
  obtain ⟨a, ex, q⟩ := q1
  subst ex
  obtain ⟨u, rfl, r⟩ := r1.one
  obtain rfl : u = Value.ref a := r
  have two : ∀ {h' : Heap}, (∀ b o, s1.heap.get? b = some o → h'.get? b = some o) → ∀ b ∈ [s1.heap.objs.size + 1, s1.heap.objs.size], FpOk X pins H1 b := fun {h'} _ b hb => by
    have e' : b = s1.heap.objs.size + 1 ∨ b = s1.heap.objs.size := by simpa using hb
    have hle : s1.heap.objs.size ≤ b := by omega
    exact I1.fpOk hle (I1.hok.fresh hle)
  rcases q with ⟨⟨xs, hq⟩, q⟩ | ⟨⟨xs, hq⟩, q⟩
  · obtain ⟨its, rv, p', hz⟩ := I1.list hq
    refine call_enumerate_list p'.isList fun h' he hit hsz hk => wpAny_pyIter_enum he ?_
    exact ⟨s1.heap.objs.size + 1, [s1.heap.objs.size + 1, s1.heap.objs.size], _, _, H1, rfl, I1.kept (t' := s1.toks) hk, turn_enum a (s1.heap.objs.size + 1) s1.heap.objs.size, ⟨⟨.none, he⟩, hit, Nat.succ_ne_self _⟩, two hk, q⟩
  · obtain ⟨its, rv, p', hz⟩ := I1.tuple hq
    refine call_enumT (show s1.heap.IsTuple a its.toArray from p') fun h' he hit hk => wpAny_pyIter_enum he ?_
    exact ⟨s1.heap.objs.size + 1, [s1.heap.objs.size + 1, s1.heap.objs.size], _, _, H1, rfl, I1.kept (t' := s1.toks) hk, turn_enumT a (s1.heap.objs.size + 1) s1.heap.objs.size, ⟨⟨.none, he⟩, hit, Nat.succ_ne_self _⟩, two hk, q⟩
end
end PI
end

section
set_option autoImplicit false
/-! PI9: iterators as readings; list comprehensions. -/
namespace PI
open PySem L2
section
variable (C : Cn)
/-- the iterator gives these items, whatever has come about meanwhile -/
structure Wk (J : It) (xs : List W) (Z : Wit) (G : Hh) (H : Hp) : Prop where
  go : ∀ (Z2 : Wit) (G2 : Hh) (H2 : Hp), Ext C Z G H Z2 G2 H2 → ∀ i, i < xs.length → J.go i H2
  yld : ∀ (Z2 : Wit) (G2 : Hh) (H2 : Hp), Ext C Z G H Z2 G2 H2 → ∀ (i : Nat) (w : W) (x : V) (H3 : Hp), xs[i]? = some w → J.yld i H2 x H3 → ∃ Z3, Ext C Z2 G2 H2 Z3 G2 H3 ∧ Rep C Z3 G2.length H3 w x
  stop : ∀ (Z2 : Wit) (G2 : Hh) (H2 : Hp), Ext C Z G H Z2 G2 H2 → J.stop xs.length H2
def okI (Wx : WX) (σ : L2.St) (Z : Wit) (G : Hh) (H : Hp) (r : R (List W)) (P : It → Hp → Prop) : Prop := match r with
  | .ok xs G' => ∀ Z' H' J, Ext C Z G H Z' G' H' → Wk C J xs Z' G' H' → P J H'
  | .ex c p G' => ∀ Z' H' d, Ext C Z G H Z' G' H' → ExcAt C Z' G' H' c p d → Wx (.ref (C.xa c)) d σ H'
  | .bad => False
def tI (Wx : WX) (f : Rho → Hh → R (List W)) : TI := fun σ H P => ∃ ρ Z G, StRep C Z G.length H ρ σ ∧ HRep C Z G H ∧ okI C Wx σ Z G H (f ρ G) P
end
section
variable {C : Cn} {Wx : WX} {X : Cx} {k : Nat} {tg : Expr}
theorem okI.ext {σ : L2.St} {Z Z1 : Wit} {G G1 : Hh} {H H1 : Hp} {r : R (List W)} {P : It → Hp → Prop} (h : okI C Wx σ Z G H r P) (x : Ext C Z G H Z1 G1 H1) : okI C Wx σ Z1 G1 H1 r P := by
  cases r with
  | ok a G' => exact fun Z' H' b y => h Z' H' b (x.trans y)
  | ex c p G' => exact fun Z' H' d y => h Z' H' d (x.trans y)
  | bad => exact h
theorem tI_bind {α β : Type} {σ : L2.St} {rel : Wit → Nat → Hp → α → β → Prop} {ρ : Rho} {Z : Wit} {G : Hh} {H : Hp} {f : Rho → Hh → R α} {k : α → Hh → R (List W)} {P : It → Hp → Prop} {Q : β → Hp → Prop}
    (st : StRep C Z G.length H ρ σ) (hr : HRep C Z G H) (h : okI C Wx σ Z G H ((f ρ G).bind k) P)
    (hk : ∀ a b Z1 G1 H1, Mid C rel ρ σ Z G H a b Z1 G1 H1 → okI C Wx σ Z1 G1 H1 (k a G1) P → Q b H1) : tG C Wx rel f σ H Q := by
  refine ⟨ρ, Z, G, st, hr, ?_⟩
  cases e : f ρ G with
  | ok a G1 =>
    rw [e] at h
    exact fun Z1 H1 b x r => hk a b Z1 G1 H1 ⟨st.ext x hr, x.hr, x, r⟩ (okI.ext h x)
  | ex c p G1 =>
    rw [e] at h
    exact h
  | bad =>
    rw [e] at h
    exact h
theorem okI.here {σ : L2.St} {Z : Wit} {G : Hh} {H : Hp} {xs : List W} {J : It} {P : It → Hp → Prop} (hr : HRep C Z G H) (h : okI C Wx σ Z G H (.ok xs G) P) (w : Wk C J xs Z G H) : P J H := h Z H J (Ext.refl hr) w
theorem okI.if_inv {σ : L2.St} {Z : Wit} {G : Hh} {H : Hp} {p : Prop} [Decidable p] {r : R (List W)} {P : It → Hp → Prop} (h : okI C Wx σ Z G H (if p then r else .bad) P) : p ∧ okI C Wx σ Z G H r P := by
  by_cases c : p
  · rw [if_pos c] at h; exact ⟨c, h⟩
  · rw [if_neg c] at h; exact h.elim
theorem pi_mono {e : Expr} {t t' : TI} (h : L2.PI X tg e t) (i : ∀ σ H P, t' σ H P → t σ H P) : L2.PI X tg e t' := ⟨fun pins s σ H R I q => h.run pins s σ H R I (i σ H R q)⟩
/-! ### what walks what -/
theorem wk_list {Z : Wit} {G : Hh} {H : Hp} {a : Addr} {vs : List V} {xs : List W} (hr : HRep C Z G H) (s : SqLs C Z H a vs) (r : RepL C Z G.length H xs vs) : Wk C (Itl C.K a) xs Z G H := by
  refine ⟨fun Z2 G2 H2 x i hi => ?_, fun Z2 G2 H2 x i w v H3 hw y => ?_, fun Z2 G2 H2 x => ?_⟩
  · obtain ⟨v, hv, _⟩ := r.get (List.getElem?_eq_getElem hi)
    exact ⟨vs, v, (x.sqls hr s).sq, hv⟩
  · obtain ⟨rfl, y⟩ := y
    obtain ⟨v', hv, rv⟩ := (r.ext x hr).get hw
    have := y vs (x.sqls hr s).sq
    rw [hv] at this
    cases this
    exact ⟨Z2, Ext.refl x.hr, rv⟩
  · exact ⟨vs, (x.sqls hr s).sq, by rw [r.length]; exact Nat.le_refl _⟩
theorem wk_tup {Z : Wit} {G : Hh} {H : Hp} {a : Addr} {vs : List V} {xs : List W} (hr : HRep C Z G H) (s : SqT C.K H a vs) (r : RepL C Z G.length H xs vs) : Wk C (Itt C.K a) xs Z G H := by
  refine ⟨fun Z2 G2 H2 x i hi => ?_, fun Z2 G2 H2 x i w v H3 hw y => ?_, fun Z2 G2 H2 x => ?_⟩
  · obtain ⟨v, hv, _⟩ := r.get (List.getElem?_eq_getElem hi)
    exact ⟨vs, v, x.sqt hr s, hv⟩
  · obtain ⟨rfl, y⟩ := y
    obtain ⟨v', hv, rv⟩ := (r.ext x hr).get hw
    have := y vs (x.sqt hr s)
    rw [hv] at this
    cases this
    exact ⟨Z2, Ext.refl x.hr, rv⟩
  · exact ⟨vs, x.sqt hr s, by rw [r.length]; exact Nat.le_refl _⟩
theorem rangeW_get {lo : Int} {n i : Nat} {w : W} (h : (rangeW lo n)[i]? = some w) : w = .int (lo + (i : Nat)) := by
  simp only [rangeW, List.getElem?_map, Option.map_eq_some_iff] at h
  obtain ⟨j, hj, rfl⟩ := h
  have := (List.getElem?_eq_some_iff.mp hj)
  obtain ⟨h1, h2⟩ := this
  rw [List.getElem_range] at h2
  rw [h2]
theorem rangeW_len {lo : Int} {n : Nat} : (rangeW lo n).length = n := by simp [rangeW]
theorem wk_rng {Z : Wit} {G : Hh} {H : Hp} {lo : Int} {n : Nat} : Wk C (Itr lo n) (rangeW lo n) Z G H := by
  refine ⟨fun Z2 G2 H2 x i hi => ?_, fun Z2 G2 H2 x i w v H3 hw y => ?_, fun Z2 G2 H2 x => ?_⟩
  · rw [rangeW_len] at hi; exact hi
  · obtain ⟨rfl, rfl⟩ := y
    rw [rangeW_get hw]
    exact ⟨Z2, Ext.refl x.hr, .int _⟩
  · rw [rangeW_len]; exact Nat.le_refl _
theorem enumW_len : ∀ (j : Nat) (xs : List W), (enumW j xs).length = xs.length
  | _, [] => rfl
  | j, x :: xs => congrArg (· + 1) (enumW_len (j + 1) xs)
theorem enumW_get : ∀ {j : Nat} {xs : List W} {i : Nat} {w : W}, (enumW j xs)[i]? = some w → ∃ x, xs[i]? = some x ∧ w = .tup [.int ((j + i : Nat) : Int), x]
  | _, [], _, _, h => by simp [enumW] at h
  | j, x :: xs, 0, w, h => by
    simp [enumW] at h
    exact ⟨x, rfl, h.symm⟩
  | j, x :: xs, i + 1, w, h => by
    obtain ⟨y, h1, h2⟩ := enumW_get (j := j + 1) (xs := xs) (i := i) (w := w) (by simpa [enumW] using h)
    exact ⟨y, by simpa using h1, by rw [h2, show j + 1 + i = j + (i + 1) by omega]⟩
theorem wk_pair {Z2 : Wit} {G2 : Hh} {H2 : Hp} {i : Nat} {w : W} {v : V} {T : Addr} (hr : HRep C Z2 G2 H2) (r : Rep C Z2 G2.length H2 w v) (hT : H2 T = none) :
    ∃ Z3, Ext C Z2 G2 H2 Z3 G2 (upd H2 T (.tup [.int (i : Nat), v])) ∧ Rep C Z3 G2.length (upd H2 T (.tup [.int (i : Nat), v])) (.tup [.int ((0 + i : Nat) : Int), w]) (.ref T) := by
  have x := Ext.grow hr (same_new (o := .tup [.int (i : Nat), v]) hT)
  rw [Nat.zero_add]
  exact ⟨Z2, x, .tup (SqT.of upd_same) (.cons (.int _) (.cons (r.ext x hr) .nil))⟩
theorem wk_enmL {Z : Wit} {G : Hh} {H : Hp} {a : Addr} {vs : List V} {xs : List W} (hr : HRep C Z G H) (s : SqLs C Z H a vs) (r : RepL C Z G.length H xs vs) : Wk C (Ite C.K a) (enumW 0 xs) Z G H := by
  refine ⟨fun Z2 G2 H2 x i hi => ?_, fun Z2 G2 H2 x i w v H3 hw y => ?_, fun Z2 G2 H2 x => ?_⟩
  · rw [enumW_len] at hi
    obtain ⟨v, hv, _⟩ := r.get (List.getElem?_eq_getElem hi)
    exact ⟨vs, v, (x.sqls hr s).sq, hv⟩
  · obtain ⟨T, u, rfl, hT, rfl, y⟩ := y
    obtain ⟨w0, hw0, rfl⟩ := enumW_get hw
    obtain ⟨v', hv, rv⟩ := (r.ext x hr).get hw0
    have := y vs (x.sqls hr s).sq
    rw [hv] at this
    cases this
    exact wk_pair x.hr rv hT
  · exact ⟨vs, (x.sqls hr s).sq, by rw [enumW_len, r.length]; exact Nat.le_refl _⟩
theorem wk_enmT {Z : Wit} {G : Hh} {H : Hp} {a : Addr} {vs : List V} {xs : List W} (hr : HRep C Z G H) (s : SqT C.K H a vs) (r : RepL C Z G.length H xs vs) : Wk C (IteT C.K a) (enumW 0 xs) Z G H := by
  refine ⟨fun Z2 G2 H2 x i hi => ?_, fun Z2 G2 H2 x i w v H3 hw y => ?_, fun Z2 G2 H2 x => ?_⟩
  · rw [enumW_len] at hi
    obtain ⟨v, hv, _⟩ := r.get (List.getElem?_eq_getElem hi)
    exact ⟨vs, v, x.sqt hr s, hv⟩
  · obtain ⟨T, u, rfl, hT, rfl, y⟩ := y
    obtain ⟨w0, hw0, rfl⟩ := enumW_get hw
    obtain ⟨v', hv, rv⟩ := (r.ext x hr).get hw0
    have := y vs (x.sqt hr s)
    rw [hv] at this
    cases this
    exact wk_pair x.hr rv hT
  · exact ⟨vs, x.sqt hr s, by rw [enumW_len, r.length]⟩
/-! ### the iterators of the language -/
theorem s_iseq {e : Expr} {f : Rho → Hh → R W} (hK : X.K = C.K) (he : PE X e (tE C Wx f)) : L2.PI X tg e (tI C Wx fun ρ G => (f ρ G).bind fun x G1 => match x with
    | .tup xs => .ok xs G1
    | .lst xs => .ok xs G1
    | _ => .bad) := by
  refine pi_mono (pi_sq he) fun σ H P ⟨ρ, Z, G, st, hr, h⟩ => tI_bind st hr h fun x v Z1 G1 H1 m h1 => ?_
  have rv := m.rep
  rw [hK]
  cases rv with
  | tup s r => exact ⟨_, rfl, .inr ⟨⟨_, s⟩, okI.here m.hr h1 (wk_tup m.hr s r)⟩⟩
  | lst s r => exact ⟨_, rfl, .inl ⟨⟨_, s.sq⟩, okI.here m.hr h1 (wk_list m.hr s r)⟩⟩
  | _ => exact h1.elim
theorem s_ienm {e : Expr} {f : Rho → Hh → R W} {p pos tpos : Pos} {elts : List Expr} {kk : Nat} (hK : X.K = C.K) (hg : Gl X "enumerate") (hm : X.mg "enumerate" = none) (hs : isStar e = false) (he : PE X e (tE C Wx f)) :
    L2.PI X (.Tuple elts kk tpos) (.Call (.Name "enumerate" p) [e] [] pos) (tI C Wx fun ρ G => (f ρ G).bind fun x G1 => match x with
    | .lst xs => .ok (enumW 0 xs) G1
    | .tup xs => .ok (enumW 0 xs) G1
    | _ => .bad) := by
  refine pi_mono (pi_enm hg hm (pa_cons he pa_nil (star_plain hs)) (star_plain hs)) fun σ H P ⟨ρ, Z, G, st, hr, h⟩ => tI_bind st hr h fun x v Z1 G1 H1 m h1 => ?_
  have rv := m.rep
  rw [hK]
  cases rv with
  | tup s r => exact ⟨_, rfl, .inr ⟨⟨_, s⟩, okI.here m.hr h1 (wk_enmT m.hr s r)⟩⟩
  | lst s r => exact ⟨_, rfl, .inl ⟨⟨_, s.sq⟩, okI.here m.hr h1 (wk_enmL m.hr s r)⟩⟩
  | _ => exact h1.elim
theorem s_ir1 {e : Expr} {f : Rho → Hh → R W} {p pos : Pos} (hg : Gl X "range") (hm : X.mg "range" = none) (hs : isStar e = false) (he : PE X e (tE C Wx f)) :
    L2.PI X tg (.Call (.Name "range" p) [e] [] pos) (tI C Wx fun ρ G => (f ρ G).bind fun x G1 => match x with
    | .int j => if j ≤ 1000000 ∧ -1000000 ≤ j then .ok (rangeW 0 j.toNat) G1 else .bad
    | _ => .bad) := by
  refine pi_mono (pi_range1 hg hm (pa_cons he pa_nil (star_plain hs)) (star_plain hs)) fun σ H P ⟨ρ, Z, G, st, hr, h⟩ => tI_bind st hr h fun x v Z1 G1 H1 m h1 => ?_
  have rv := m.rep
  cases rv with
  | int j =>
    obtain ⟨c, h1⟩ := okI.if_inv h1
    exact ⟨j, rfl, by omega, by omega, okI.here m.hr h1 wk_rng⟩
  | _ => exact h1.elim
theorem s_ir2 {e e2 : Expr} {f g : Rho → Hh → R W} {p pos : Pos} (hg : Gl X "range") (hm : X.mg "range" = none) (hs : isStar e = false) (hs2 : isStar e2 = false) (he : PE X e (tE C Wx f)) (he2 : PE X e2 (tE C Wx g)) :
    L2.PI X tg (.Call (.Name "range" p) [e, e2] [] pos) (tI C Wx fun ρ G => (f ρ G).bind fun x G1 => (g ρ G1).bind fun y G2 => match x, y with
    | .int i, .int j => if (-1000000 ≤ i ∧ i ≤ 1000000) ∧ -1000000 ≤ j ∧ j ≤ 1000000 then .ok (rangeW i (j - i).toNat) G2 else .bad
    | _, _ => .bad) := by
  have s2 : starEach [e, e2] X.env = [(false, eval e X.env), (false, eval e2 X.env)] := by
    rw [star_plain hs, star_plain hs2]; rfl
  refine pi_mono (pi_range2 hg hm (pa_cons he (pa_cons he2 pa_nil (star_plain hs2)) (star_plain hs)) s2 (star_plain hs2)) fun σ H P ⟨ρ, Z, G, st, hr, h⟩ => tI_bind st hr h fun x v Z1 G1 H1 m h1 => tI_bind m.st m.hr h1 fun y u Z2 G2 H2 m2 h2 => ?_
  have rv := m.rep
  have ru := m2.rep
  cases x with
  | int i =>
    cases y with
    | int j =>
      cases rv
      cases ru
      obtain ⟨c, h2⟩ := okI.if_inv h2
      exact ⟨i, j, rfl, by omega, okI.here m2.hr h2 wk_rng⟩
    | _ => exact h2.elim
  | _ => exact h2.elim
end
end PI
end

section
set_option autoImplicit false
/-! PI10: targets; list comprehensions. -/
namespace PI
open PySem L2
def tgIx : Tg → List Nat
  | .nm i => [i]
  | .tp is => is
section
variable (C : Cn)
/-- a target's store -/
def TgOk (g : TG) (tg : Tg) : Prop := ∀ (Z : Wit) (G : Hh) (H : Hp) (ρ ρ' : Rho) (σ : L2.St) (w : W) (v : V) (P : L2.St → Hp → Prop), HRep C Z G H → StRep C Z G.length H ρ σ → Rep C Z G.length H w v → bindTg tg w ρ = some ρ' →
  (∀ σ', StRep C Z G.length H ρ' σ' → (∀ vs : List Nat, (∀ i ∈ tgIx tg, i ∈ vs) → L2.wipe σ' vs = L2.wipe σ vs) → P σ' H) → g v σ H P
end
section
variable {C : Cn} {Wx : WX} {X : Cx} {k : Nat}
theorem wipe_set {σ : L2.St} {i : Nat} {o : Option V} : ∀ {vs : List Nat}, i ∈ vs → L2.wipe (σ.set i o) vs = L2.wipe σ vs
  | [], h => by cases h
  | v :: vs, h => by
    by_cases hv : i ∈ vs
    · show (L2.wipe (σ.set i o) vs).set v none = (L2.wipe σ vs).set v none
      rw [wipe_set hv]
    · have e : i = v := (List.mem_cons.mp h).resolve_right hv
      subst e
      show (L2.wipe (σ.set i o) vs).set i none = (L2.wipe σ vs).set i none
      have out : ∀ {us : List Nat}, i ∉ us → L2.wipe (σ.set i o) us = (L2.wipe σ us).set i o := fun {us} => by
        induction us with
        | nil => exact fun _ => rfl
        | cons u us ih =>
          intro hu
          have h1 : i ≠ u := fun z => hu (z ▸ List.mem_cons_self ..)
          have h2 : i ∉ us := fun z => hu (List.mem_cons_of_mem _ z)
          show (L2.wipe (σ.set i o) us).set u none = ((L2.wipe σ us).set u none).set i o
          rw [ih h2, List.set_comm _ _ h1]
      rw [out hv, List.set_set]
theorem tgok_nm (i : Nat) : TgOk C (gName i) (.nm i) := fun Z G H ρ ρ' σ w v P hr st r e h => by
  cases e
  exact h _ (st.set i r) fun vs hv => wipe_set (hv i (by simp [tgIx]))
/-- names, one behind another -/
def gNames : List Nat → TGs
  | [] => gNil
  | i :: is => gCons (gName i) (gNames is)
theorem names_run {Z : Wit} {n : Nat} {H : Hp} {P : L2.St → Hp → Prop} : ∀ {is : List Nat} {ws : List W} {vs : List V} {ρ ρ' : Rho} {σ : L2.St}, StRep C Z n H ρ σ → RepL C Z n H ws vs → setMany ρ is ws = some ρ' →
    (∀ σ', StRep C Z n H ρ' σ' → (∀ us : List Nat, (∀ i ∈ is, i ∈ us) → L2.wipe σ' us = L2.wipe σ us) → P σ' H) → gNames is vs σ H P
  | [], [], _, ρ, ρ', σ, st, r, e, h => by
    cases r
    simp only [setMany] at e
    cases e
    exact ⟨rfl, h σ st fun _ _ => rfl⟩
  | [], _ :: _, _, _, _, _, _, _, e, _ => by simp [setMany] at e
  | _ :: _, [], _, _, _, _, _, _, e, _ => by simp [setMany] at e
  | i :: is, w :: ws, _, ρ, ρ', σ, st, r, e, h => by
    cases r with
    | cons r rr =>
      refine ⟨_, _, rfl, ?_⟩
      simp only [setMany] at e
      refine names_run (st.set i r) rr e fun σ' st' hw => h σ' st' fun us hu => ?_
      rw [hw us fun j hj => hu j (List.mem_cons_of_mem _ hj)]
      exact wipe_set (hu i (List.mem_cons_self ..))
theorem tgok_tp (hK : X.K = C.K) (is : List Nat) : TgOk C (gTup X.K is.length (gNames is)) (.tp is) := fun Z G H ρ ρ' σ w v P hr st r e h => by
  cases w with
  | tup xs =>
    cases r with
    | tup s r =>
      simp only [bindTg] at e
      have hl : xs.length = is.length := by
        clear h r s
        induction is generalizing xs ρ with
        | nil =>
          cases xs with
          | nil => rfl
          | cons _ _ => simp [setMany] at e
        | cons i is ih =>
          cases xs with
          | nil => simp [setMany] at e
          | cons x xs =>
            simp only [setMany] at e
            have h' : ∀ {n : Nat} {σ : L2.St}, xs.length = is.length := fun {n σ} => by
              clear ih st hr
              induction is generalizing xs ρ i x with
              | nil =>
                cases xs with
                | nil => rfl
                | cons _ _ => simp [setMany] at e
              | cons j js ih2 =>
                cases xs with
                | nil => simp [setMany] at e
                | cons y ys =>
                  simp only [setMany] at e
                  exact congrArg (· + 1) (ih2 (x := y) (xs := ys) (ρ := ρ.set i (some x)) (i := j) (by simpa only [setMany] using e))
            exact congrArg (· + 1) (h' (n := 0) (σ := []))
      exact ⟨_, _, rfl, by rw [hK]; exact s, by rw [← r.length]; exact hl, names_run st r e h⟩
  | _ => cases e
theorem wkS {Z : Wit} {H : Hp} {D : Addr} {zs ys : List V} {a : Addr} {vs : List V} (hS : Z.S D) (hD : H D = some (.lst zs)) (r : SqLs C Z H a vs) : SqLs C Z (upd H D (.lst ys)) a vs := by
  rcases r with ⟨r, ns⟩ | r
  · have ne : a ≠ D := fun z => ns (z ▸ hS)
    refine .inl ⟨?_, ns⟩
    rcases r with r | ⟨q, r⟩
    · exact .inl (by rw [upd_ne ne]; exact r)
    · exact .inr ⟨q, by rw [upd_ne ne]; exact r⟩
  · exact .inr r
theorem sqtD {H : Hp} {D : Addr} {zs ys : List V} {a : Addr} {vs : List V} (hD : H D = some (.lst zs)) (r : SqT C.K H a vs) : SqT C.K (upd H D (.lst ys)) a vs := by
  rcases r with (r | ⟨q, r⟩) | r
  · have ne : a ≠ D := fun z => by rw [z, hD] at r; cases r
    exact .inl (.inl (by rw [upd_ne ne]; exact r))
  · have ne : a ≠ D := fun z => by rw [z, hD] at r; cases r
    exact .inl (.inr ⟨q, by rw [upd_ne ne]; exact r⟩)
  · exact .inr r
theorem extD {H : Hp} {D : Addr} {zs ys : List V} {a : Addr} {φ : Heap → Prop} (hD : H D = some (.lst zs)) (r : H a = some (.ext φ)) : upd H D (.lst ys) a = some (.ext φ) := by
  have ne : a ≠ D := fun z => by rw [z, hD] at r; cases r
  rw [upd_ne ne]; exact r
theorem RepL.updD {Z : Wit} {n : Nat} {H : Hp} {D : Addr} {zs ys : List V} {ws : List W} {vs : List V} (hS : Z.S D) (hD : H D = some (.lst zs)) (r : RepL C Z n H ws vs) : RepL C Z n (upd H D (.lst ys)) ws vs :=
  RepL.via (C := C) (Z := Z) (Z' := Z) (n := n) (m := n) (fun _ _ => sqtD hD) (fun _ _ => wkS hS hD) (fun j hj => ⟨hj, rfl⟩) (fun _ _ => extD hD) r
theorem Rep.updD {Z : Wit} {n : Nat} {H : Hp} {D : Addr} {zs ys : List V} {ws : W} {vs : V} (hS : Z.S D) (hD : H D = some (.lst zs)) (r : Rep C Z n H ws vs) : Rep C Z n (upd H D (.lst ys)) ws vs :=
  Rep.via (C := C) (Z := Z) (Z' := Z) (n := n) (m := n) (fun _ _ => sqtD hD) (fun _ _ => wkS hS hD) (fun j hj => ⟨hj, rfl⟩) (fun _ _ => extD hD) r
/-- the list under way is written -/
theorem Ext.updD {Z Z0 : Wit} {G G0 : Hh} {H H0 : Hp} {D : Addr} {zs ys : List V} (x : Ext C Z0 G0 H0 Z G H) (h0 : H0 D = none) (hS : Z.S D) (hD : H D = some (.lst zs)) (nl : ¬ isLive Z G D) : Ext C Z0 G0 H0 Z G (upd H D (.lst ys)) := by
  have ne : ∀ {b : Addr} {o : HO}, H0 b = some o → b ≠ D := fun {b o} e z => by rw [z, h0] at e; cases e
  refine ⟨x.len, x.al, fun b o e l => by rw [upd_ne (ne e)]; exact x.fr b o e l, x.s1, x.s2, x.nl, fun b e => ?_, ⟨fun j c e => ?_, x.hr.inj, fun b s z => ?_⟩⟩
  · by_cases hb : b = D
    · rw [hb]; exact h0
    · rw [upd_ne hb] at e; exact x.dm b e
  · refine (x.hr.cells j c e).via (fun _ _ => sqtD hD) (fun _ _ => wkS hS hD) (fun i hi => ⟨hi, rfl⟩) (fun _ _ => extD hD) (fun nd o q => ?_) fun _ s => s
    rw [upd_ne (fun z => nl ⟨j, c, e, nd, z⟩)]
    exact q
  · by_cases hb : b = D
    · rw [hb, upd_same] at z; cases z
    · rw [upd_ne hb] at z; exact x.hr.sd b s z
/-- .. and made -/
def Wit.plus (Z : Wit) (p : Addr) : Wit := ⟨Z.α, fun b => Z.S b ∨ b = p⟩
theorem Ext.newD {Z : Wit} {G : Hh} {H : Hp} {D : Addr} {ys : List V} (hr : HRep C Z G H) (h0 : H D = none) : Ext C Z G H (Z.plus D) G (upd H D (.lst ys)) := by
  have e : ∀ b o, H b = some o → upd H D (.lst ys) b = some o := same_new h0
  have sq : ∀ (a : Addr) (vs : List V), SqLs C Z H a vs → SqLs C (Z.plus D) (upd H D (.lst ys)) a vs := fun a vs r => by
    rcases r with ⟨r, ns⟩ | r
    · refine .inl ⟨?_, fun z => z.elim ns fun z => ?_⟩
      · rcases r with r | ⟨q, r⟩
        · exact .inl (e _ _ r)
        · exact .inr ⟨q, e _ _ r⟩
      · subst z
        rcases r with r | ⟨q, r⟩ <;> (rw [h0] at r; cases r)
    · exact .inr r
  refine ⟨Nat.le_refl _, fun _ _ => rfl, fun b o q _ => e b o q, fun b s => .inl s, fun b s => s.elim .inl fun z => .inr (z ▸ h0), fun b l => .inl l, fun b q => ?_, ⟨fun j c q => (hr.cells j c q).via (fun _ _ => SqT.grow e) sq (fun i hi => ⟨hi, rfl⟩) (fun _ _ => e _ _) (fun _ o => e _ o) fun _ s => .inl s, hr.inj, fun b s z => ?_⟩⟩
  · cases z : H b with
    | none => rfl
    | some o => rw [e b o z] at q; cases q
  · rcases s with s | s
    · cases q : H b with
      | none => exact hr.sd b s q
      | some o => rw [e b o q] at z; cases z
    · rw [s, upd_same] at z; cases z
theorem noex_G {α β γ δ : Type} {Wx' : WX} {σ σ' : L2.St} {rel : Wit → Nat → Hp → α → β → Prop} {rel2 : Wit → Nat → Hp → γ → δ → Prop} {ρ : Rho} {Z : Wit} {G : Hh} {H : Hp} {Z0 : Wit} {G0 : Hh} {H0 : Hp} {f : Rho → Hh → R α} {k : α → Hh → R γ} {Q : δ → Hp → Prop} {P : β → Hp → Prop}
    (st : StRep C Z G.length H ρ σ') (hr : HRep C Z G H) (h : okG C Wx σ rel2 Z0 G0 H0 ((f ρ G).noex.bind k) Q)
    (hk : ∀ a b Z1 G1 H1, Mid C rel ρ σ' Z G H a b Z1 G1 H1 → okG C Wx σ rel2 Z0 G0 H0 (k a G1) Q → P b H1) : tG C Wx' rel f σ' H P := by
  refine ⟨ρ, Z, G, st, hr, ?_⟩
  cases e : f ρ G with
  | ok a G1 =>
    rw [e] at h
    exact fun Z1 H1 b x r => hk a b Z1 G1 H1 ⟨st.ext x hr, x.hr, x, r⟩ h
  | ex c p G1 =>
    rw [e] at h
    exact h.elim
  | bad =>
    rw [e] at h
    exact h.elim
/-- one turn -/
def lcStep (own : List Nat) (tg : Tg) (ft : Rho → Hh → R Bool) (fe : Rho → Hh → R W) (ρ : Rho) : W → Hh → R (Option W) := fun x G2 => match bindTg tg x (wipeR ρ own) with
  | some ρ2 => (ft ρ2 G2).noex.bind fun c G3 => if c then (fe ρ2 G3).noex.bind fun y G4 => .ok (some y) G4 else .ok none G3
  | none => .bad
theorem R.bind_assoc {α β γ : Type} (r : R α) (f : α → Hh → R β) (g : β → Hh → R γ) : (r.bind f).bind g = r.bind fun a G => (f a G).bind g := by
  cases r <;> rfl
theorem lc_read {Wf : WX} {g : TG} {tg : Tg} {own : List Nat} {fi : Rho → Hh → R (List W)} {ft : Rho → Hh → R Bool} {fe : Rho → Hh → R W} {σ : L2.St} {H : Hp} {Q : VK} (hg : TgOk C g tg) (hown : ∀ i ∈ tgIx tg, i ∈ own)
    (h : tE C Wx (fun ρ G => (fi ρ G).bind fun xs G1 => if xs.length ≤ 1000000 then (lcRun (lcStep own tg ft fe ρ) xs G1).bind fun ys G5 => .ok (.lst ys) G5 else .bad) σ H Q) :
    tLc (tI C Wx fi) g (tT C Wf ft) (tE C Wf fe) own σ H Q := by
  obtain ⟨ρ, Z, G, st, hr, h⟩ := h
  dsimp only at h
  refine ⟨ρ, Z, G, st, hr, ?_⟩
  cases e : fi ρ G with
  | bad => rw [e] at h; exact h
  | ex c p G1 => rw [e] at h; exact h
  | ok xs G1 =>
    rw [e] at h
    intro Z1 H1 J x1 wk D hD
    obtain ⟨hlen, h⟩ := okG.if_inv (r := (lcRun (lcStep own tg ft fe ρ) xs G1).bind fun ys G5 => R.ok (W.lst ys) G5) h
    have h := okG.ext h x1
    have st1 := st.ext x1 hr
    have hr1 := x1.hr
    have hS1 : ¬ Z1.S D := fun s => hr1.sd D s hD
    have hl1 : ¬ isLive Z1 G1 D := fun l => live_some hr1 l hD
    refine ⟨fun i m H2 => m = xs.length - i ∧ i ≤ xs.length ∧ ∃ Z2 G2 aw av, Ext C Z1 G1 H1 Z2 G2 H2 ∧ H2 D = some (.lst av) ∧ RepL C Z2 G2.length H2 aw av ∧ ¬ isLive Z2 G2 D ∧ Z2.S D ∧ aw.length ≤ i ∧
      okG C Wx σ (Rep C) Z1 G1 H1 ((lcRun (lcStep own tg ft fe ρ) (xs.drop i) G2).bind fun ys G5 => .ok (.lst (aw ++ ys)) G5) Q, ⟨xs.length, by simp, Nat.zero_le _, Z1.plus D, G1, [], [], Ext.newD hr1 hD, upd_same, .nil, hl1, .inr rfl, Nat.zero_le _, by simpa using h⟩, ?_⟩
    rintro i m H2 ⟨rfl, hi, Z2, G2, aw, av, x2, hD2, ra, nl2, hS2, haw, h2⟩
    by_cases hlt : i < xs.length
    · refine .inr ⟨wk.go Z2 G2 H2 x2 i hlt, fun H' => ∃ Z2 G2 aw av, Ext C Z1 G1 H1 Z2 G2 H' ∧ H' D = some (.lst av) ∧ RepL C Z2 G2.length H' aw av ∧ ¬ isLive Z2 G2 D ∧ Z2.S D ∧ aw.length ≤ i + 1 ∧
        okG C Wx σ (Rep C) Z1 G1 H1 ((lcRun (lcStep own tg ft fe ρ) (xs.drop (i + 1)) G2).bind fun ys G5 => .ok (.lst (aw ++ ys)) G5) Q, fun H' q => ⟨xs.length - (i + 1), by omega, rfl, hlt, q⟩, fun v H3 y3 => ?_⟩
      obtain ⟨Z3, x3, r3⟩ := wk.yld Z2 G2 H2 x2 i xs[i] v H3 (List.getElem?_eq_getElem hlt) y3
      rw [List.drop_eq_getElem_cons hlt] at h2
      have x13 := x2.trans x3
      have hD3 : H3 D = some (.lst av) := x3.fr D _ hD2 nl2
      have nl3 : ¬ isLive Z3 G2 D := fun l => (x3.nl D l).elim nl2 fun z => by rw [hD2] at z; cases z
      have hS3 := x3.s1 D hS2
      have ra3 := ra.ext x3 x2.hr
      have st3 : StRep C Z3 G2.length H3 (wipeR ρ own) (L2.wipe σ own) := (st1.ext x13 hr1).wipe own
      -- the store
      simp only [lcRun, lcStep] at h2
      cases eb : bindTg tg xs[i] (wipeR ρ own) with
      | none => rw [eb] at h2; exact h2.elim
      | some ρ2 =>
        rw [eb] at h2
        simp only [R.bind_assoc] at h2
        refine hg Z3 G2 H3 _ ρ2 _ _ v _ x3.hr st3 r3 eb fun σ2 st4 hw => ⟨?_, ?_⟩
        · rw [hw own hown]
          have idem : ∀ (us vs : List Nat) (τ : L2.St), (∀ i ∈ us, i ∈ vs) → L2.wipe (L2.wipe τ us) vs = L2.wipe τ vs := fun us vs τ hu => by
            induction us with
            | nil => rfl
            | cons u us ih =>
              show L2.wipe ((L2.wipe τ us).set u none) vs = _
              rw [wipe_set (hu u (List.mem_cons_self ..)), ih fun j hj => hu j (List.mem_cons_of_mem _ hj)]
          exact idem own own σ fun _ h => h
        · refine noex_G (rel := relB) st4 x3.hr h2 fun c b Z4 G4 H4 m4 h4 => ?_
          have hb : c = b := m4.rep
          subst hb
          have hD4 : H4 D = some (.lst av) := m4.x.fr D _ hD3 nl3
          have nl4 : ¬ isLive Z4 G4 D := fun l => (m4.x.nl D l).elim nl3 fun z => by rw [hD3] at z; cases z
          have hS4 := m4.x.s1 D hS3
          have ra4 := ra3.ext m4.x x3.hr
          have x14 := x13.trans m4.x
          cases c with
          | false =>
            rw [if_neg Bool.false_ne_true]
            refine ⟨Z4, G4, aw, av, x14, hD4, ra4, nl4, hS4, by omega, ?_⟩
            simpa [R.bind] using h4
          | true =>
            rw [if_pos rfl]
            simp only [if_true, R.bind_assoc] at h4
            refine noex_G (rel := Rep C) m4.st m4.hr h4 fun y u Z5 G5 H5 m5 h5 => ?_
            have hD5 : H5 D = some (.lst av) := m5.x.fr D _ hD4 nl4
            have nl5 : ¬ isLive Z5 G5 D := fun l => (m5.x.nl D l).elim nl4 fun z => by rw [hD4] at z; cases z
            have hS5 := m5.x.s1 D hS4
            have ra5 := ra4.ext m5.x m4.hr
            refine ⟨av, hD5, by rw [← ra.length, sizeLine_eq]; omega, Z5, G5, aw ++ [y], av ++ [u], (x14.trans m5.x).updD hD hS5 hD5 nl5, upd_same, (ra5.append (.cons m5.rep .nil)).updD hS5 hD5, nl5, hS5, by rw [List.length_append, List.length_singleton]; omega, ?_⟩
            simp only [R.bind_ok, R.bind_assoc, Option.toList] at h5
            simpa [List.append_assoc] using h5
    · have ei : i = xs.length := by omega
      subst ei
      refine .inl ⟨wk.stop Z2 G2 H2 x2, ?_⟩
      rw [List.drop_length] at h2
      simp only [lcRun, R.bind_ok, List.append_nil] at h2
      refine h2 (Z2.less D) H2 (.ref D) (x2.unS hD hS1 nl2) (.lst (.inl ⟨.inl hD2, fun z => z.2 rfl⟩) ra.unS)
end
end PI
end

section
set_option autoImplicit false
/-! PI11: statements. -/
namespace PI
open PySem L2
section
variable (C : Cn)
def okS (Wx : WX) (D : Ends) (Z : Wit) (G : Hh) (H : Hp) (r : RS) : Prop := match r with
  | .nx ρ G' => ∀ Z' H' σ', Ext C Z G H Z' G' H' → StRep C Z' G'.length H' ρ σ' → D.nx σ' H'
  | .rt w G' => ∀ Z' H' v, Ext C Z G H Z' G' H' → Rep C Z' G'.length H' w v → D.rt v H'
  | .ex c p ρ G' => ∀ Z' H' σ' d, Ext C Z G H Z' G' H' → StRep C Z' G'.length H' ρ σ' → ExcAt C Z' G' H' c p d → Wx (.ref (C.xa c)) d σ' H'
  | .bad => False
/-- the reading of what a statement gives -/
def tSt (Wx : WX) (f : Rho → Hh → RS) : TS := fun D σ H => ∃ ρ Z G, StRep C Z G.length H ρ σ ∧ HRep C Z G H ∧ okS C Wx D Z G H (f ρ G)
end
section
variable {C : Cn} {Wx : WX} {X : Cx} {k : Nat}
theorem okS.ext {D : Ends} {Z Z1 : Wit} {G G1 : Hh} {H H1 : Hp} {r : RS} (h : okS C Wx D Z G H r) (x : Ext C Z G H Z1 G1 H1) : okS C Wx D Z1 G1 H1 r := by
  cases r with
  | nx ρ G' => exact fun Z' H' σ' y => h Z' H' σ' (x.trans y)
  | rt w G' => exact fun Z' H' v y => h Z' H' v (x.trans y)
  | ex c p ρ G' => exact fun Z' H' σ' d y => h Z' H' σ' d (x.trans y)
  | bad => exact h
theorem okS.bk {D : Ends} {Z : Wit} {G : Hh} {H : Hp} {r : RS} {b b' : L2.St → Hp → Prop} (h : okS C Wx D Z G H r) : okS C Wx { nx := D.nx, rt := D.rt, bk := b, ct := b' } Z G H r := by
  cases r <;> exact h
/-- behind an expression -/
theorem tS_bind {α β : Type} {σ : L2.St} {D : Ends} {rel : Wit → Nat → Hp → α → β → Prop} {ρ : Rho} {Z : Wit} {G : Hh} {H : Hp} {f : Rho → Hh → R α} {k : α → Hh → RS} {P : β → Hp → Prop}
    (st : StRep C Z G.length H ρ σ) (hr : HRep C Z G H) (h : okS C Wx D Z G H ((f ρ G).thn ρ k))
    (hk : ∀ a b Z1 G1 H1, Mid C rel ρ σ Z G H a b Z1 G1 H1 → okS C Wx D Z1 G1 H1 (k a G1) → P b H1) : tG C Wx rel f σ H P := by
  refine ⟨ρ, Z, G, st, hr, ?_⟩
  cases e : f ρ G with
  | ok a G1 =>
    rw [e] at h
    exact fun Z1 H1 b x r => hk a b Z1 G1 H1 ⟨st.ext x hr, x.hr, x, r⟩ (okS.ext h x)
  | ex c p G1 =>
    rw [e] at h
    exact fun Z' H' d x ea => h Z' H' σ d x (st.ext x hr) ea
  | bad =>
    rw [e] at h
    exact h
theorem okS.next {D : Ends} {Z : Wit} {G : Hh} {H : Hp} {ρ : Rho} {σ : L2.St} (hr : HRep C Z G H) (h : okS C Wx D Z G H (.nx ρ G)) (st : StRep C Z G.length H ρ σ) : D.nx σ H := h Z H σ (Ext.refl hr) st
theorem okS.back {D : Ends} {Z : Wit} {G : Hh} {H : Hp} {w : W} {v : V} (hr : HRep C Z G H) (h : okS C Wx D Z G H (.rt w G)) (r : Rep C Z G.length H w v) : D.rt v H := h Z H v (Ext.refl hr) r
theorem okS.if_inv {D : Ends} {Z : Wit} {G : Hh} {H : Hp} {p : Prop} [Decidable p] {r : RS} (h : okS C Wx D Z G H (if p then r else .bad)) : p ∧ okS C Wx D Z G H r := by
  by_cases c : p
  · rw [if_pos c] at h; exact ⟨c, h⟩
  · rw [if_neg c] at h; exact h.elim
/-- one after another -/
theorem okS.seq {D : Ends} {Z : Wit} {G : Hh} {H : Hp} {r : RS} {k : Rho → Hh → RS} (h : okS C Wx D Z G H (r.thn k)) (hr : HRep C Z G H) : okS C Wx { nx := tSt C Wx k D, rt := D.rt, bk := D.bk, ct := D.ct } Z G H r := by
  cases r with
  | nx ρ G' => exact fun Z' H' σ' x st => ⟨ρ, Z', G', st, x.hr, okS.ext h x⟩
  | rt w G' => exact h
  | ex c p ρ G' => exact h
  | bad => exact h
theorem s_nil : PSs X [] (tSt C Wx fun ρ G => .nx ρ G) := PSs.mono pss_nil fun D σ H ⟨ρ, Z, G, st, hr, h⟩ => okS.next hr h st
theorem s_cons {s : Stmt} {ss : List Stmt} {f g : Rho → Hh → RS} (h1 : PS X s (tSt C Wx f)) (h2 : PSs X ss (tSt C Wx g)) : PSs X (s :: ss) (tSt C Wx fun ρ G => (f ρ G).thn g) :=
  PSs.mono (pss_cons h1 h2) fun D σ H ⟨ρ, Z, G, st, hr, h⟩ => ⟨ρ, Z, G, st, hr, h.seq hr⟩
/-! ### simple statements -/
theorem s_pass {pos : Pos} : PS X (.Pass pos) (tSt C Wx fun ρ G => .nx ρ G) := PS.mono ps_pass fun D σ H ⟨ρ, Z, G, st, hr, h⟩ => okS.next hr h st
theorem s_doc {x : Str} {j : Nat} {pos pos' : Pos} : PS X (.Expr (.Constant (.str x) j pos) pos') (tSt C Wx fun ρ G => .nx ρ G) := PS.mono ps_doc fun D σ H ⟨ρ, Z, G, st, hr, h⟩ => okS.next hr h st
theorem s_asg {i : Nat} {x : Str} {e : Expr} {f : Rho → Hh → R W} {pos pos' : Pos} (hN : X.N.Nodup) (hi : X.N[i]? = some x) (hx : Loc X.env.scope x) (he : PE X e (tE C Wx f)) (hs : swapsWith e (some (.Name x pos')) pos.line X.env = pure false) (hf : X.fn x = true ∨ X.env.scope.names.lookup x = some .local) :
    PS X (.Assign [.Name x pos'] e pos) (tSt C Wx fun ρ G => (f ρ G).thn ρ fun x G1 => .nx (ρ.set i (some x)) G1) :=
  PS.mono (ps_set hN hi hx he hs hf) fun D σ H ⟨ρ, Z, G, st, hr, h⟩ => tS_bind st hr h fun x v Z1 G1 H1 m h1 => okS.next m.hr h1 (m.st.set i m.rep)
theorem s_par {i j : Nat} {x y : Str} {a b : Expr} {f g : Rho → Hh → R W} {px py pt pos : Pos} {kt k2 : Nat} {pt2 : Pos} (hc : X.calm = true) (hN : X.N.Nodup) (hi : X.N[i]? = some x) (hj : X.N[j]? = some y) (hij : i ≠ j)
    (hx : X.env.scope.names.lookup x = some .local) (hy : X.env.scope.names.lookup y = some .local) (hsa : isStar a = false) (hsb : isStar b = false) (ha : PE X a (tE C Wx f)) (hb : PE X b (tE C Wx g))
    (hw : swappedStores [.Tuple [.Name x px, .Name y py] kt pt] (.Tuple [a, b] k2 pt2) X.env = pure (some [x, y]))
    (hs : swapsWithSole [.Tuple [.Name x px, .Name y py] kt pt] (.Tuple [a, b] k2 pt2) pos.line X.env = pure false) :
    PS X (.Assign [.Tuple [.Name x px, .Name y py] kt pt] (.Tuple [a, b] k2 pt2) pos) (tSt C Wx fun ρ G => (f ρ G).thn ρ fun x G1 => (g ρ G1).thn ρ fun y G2 => .nx ((ρ.set i (some x)).set j (some y)) G2) :=
  PS.mono (ps_par hc hN hi hj hij hx hy (pa_cons ha (pa_cons hb pa_nil (star_plain hsb)) (star_plain hsa)) hw hs) fun D σ H ⟨ρ, Z, G, st, hr, h⟩ =>
    tS_bind st hr h fun x v Z1 G1 H1 m h1 => tS_bind m.st m.hr h1 fun y u Z2 G2 H2 m2 h2 => ⟨v, u, rfl, okS.next m2.hr h2 ((m2.st.set i (m.rep.ext m2.x m.hr)).set j m2.rep)⟩
theorem s_par3 {i j l : Nat} {x y z : Str} {a b c : Expr} {f g e : Rho → Hh → R W} {px py pz pt pos : Pos} {kt k2 : Nat} {pt2 : Pos} (hc : X.calm = true) (hN : X.N.Nodup) (hi : X.N[i]? = some x) (hj : X.N[j]? = some y) (hl : X.N[l]? = some z) (hij : i ≠ j) (hil : i ≠ l) (hjl : j ≠ l)
    (hx : X.env.scope.names.lookup x = some .local) (hy : X.env.scope.names.lookup y = some .local) (hz : X.env.scope.names.lookup z = some .local) (hsa : isStar a = false) (hsb : isStar b = false) (hsc : isStar c = false) (ha : PE X a (tE C Wx f)) (hb : PE X b (tE C Wx g)) (hcc : PE X c (tE C Wx e))
    (hw : swappedStores [.Tuple [.Name x px, .Name y py, .Name z pz] kt pt] (.Tuple [a, b, c] k2 pt2) X.env = pure (some [x, y, z]))
    (hs : swapsWithSole [.Tuple [.Name x px, .Name y py, .Name z pz] kt pt] (.Tuple [a, b, c] k2 pt2) pos.line X.env = pure false) :
    PS X (.Assign [.Tuple [.Name x px, .Name y py, .Name z pz] kt pt] (.Tuple [a, b, c] k2 pt2) pos) (tSt C Wx fun ρ G => (f ρ G).thn ρ fun x G1 => (g ρ G1).thn ρ fun y G2 => (e ρ G2).thn ρ fun z G3 => .nx (((ρ.set i (some x)).set j (some y)).set l (some z)) G3) :=
  PS.mono (ps_par3 hc hN hi hj hl hij hil hjl hx hy hz (pa_cons ha (pa_cons hb (pa_cons hcc pa_nil (star_plain hsc)) (star_plain hsb)) (star_plain hsa)) hw hs) fun D σ H ⟨ρ, Z, G, st, hr, h⟩ =>
    tS_bind st hr h fun x v Z1 G1 H1 m h1 => tS_bind m.st m.hr h1 fun y u Z2 G2 H2 m2 h2 => tS_bind m2.st m2.hr h2 fun z w Z3 G3 H3 m3 h3 => ⟨v, u, w, rfl, okS.next m3.hr h3 (((m3.st.set i ((m.rep.ext m2.x m.hr).ext m3.x m2.hr)).set j (m2.rep.ext m3.x m2.hr)).set l m3.rep)⟩
theorem s_drop {e : Expr} {f : Rho → Hh → R W} {pos : Pos} (he : PE X e (tE C Wx f)) (hs : swapsWith e none pos.line X.env = pure false) : PS X (.Expr e pos) (tSt C Wx fun ρ G => (f ρ G).thn ρ fun _ G1 => .nx ρ G1) :=
  PS.mono (ps_expr he hs) fun D σ H ⟨ρ, Z, G, st, hr, h⟩ => tS_bind st hr h fun x v Z1 G1 H1 m h1 => okS.next m.hr h1 m.st
theorem s_ret {e : Expr} {f : Rho → Hh → R W} {pos : Pos} (he : PE X e (tE C Wx f)) : PS X (.Return (some e) pos) (tSt C Wx fun ρ G => (f ρ G).thn ρ fun x G1 => .rt x G1) :=
  PS.mono (ps_ret he) fun D σ H ⟨ρ, Z, G, st, hr, h⟩ => tS_bind st hr h fun x v Z1 G1 H1 m h1 => okS.back m.hr h1 m.rep
theorem s_retN {pos : Pos} : PS X (.Return none pos) (tSt C Wx fun ρ G => .rt .non G) := PS.mono ps_retN fun D σ H ⟨ρ, Z, G, st, hr, h⟩ => okS.back hr h .non
theorem s_cond {c : Expr} {a b : List Stmt} {ft : Rho → Hh → R Bool} {fa fb : Rho → Hh → RS} {pos : Pos} (hc : PT X c (tT C Wx ft)) (ha : PSs X a (tSt C Wx fa)) (hb : PSs X b (tSt C Wx fb)) :
    PS X (.If c a b pos) (tSt C Wx fun ρ G => (ft ρ G).thn ρ fun c G1 => if c then fa ρ G1 else fb ρ G1) :=
  PS.mono (ps_if hc ha hb) fun D σ H ⟨ρ, Z, G, st, hr, h⟩ => tS_bind (rel := relB) st hr h fun x v Z1 G1 H1 m h1 => by
    have e : x = v := m.rep
    subst e
    cases x with
    | true => rw [if_pos rfl]; exact ⟨ρ, Z1, G1, m.st, m.hr, h1⟩
    | false => rw [if_neg Bool.false_ne_true]; exact ⟨ρ, Z1, G1, m.st, m.hr, h1⟩
theorem lstOf_inv {Z : Wit} {G : Hh} {H : Hp} {x : W} {v : V} {xs : List W} (hr : HRep C Z G H) (r : Rep C Z G.length H x v) (e : lstOf x G = some xs) :
    ∃ n vs, x = .ref n ∧ v = .ref (Z.α n) ∧ G[n]? = some (.lst xs) ∧ H (Z.α n) = some (.lst vs) ∧ RepL C Z G.length H xs vs ∧ Z.S (Z.α n) := by
  cases r with
  | ref hm =>
    rename_i n
    simp only [lstOf] at e
    cases q : G[n]? with
    | none => rw [q] at e; cases e
    | some d =>
      rw [q] at e
      cases d with
      | lst ys =>
        cases e
        obtain ⟨vs, h1, h2, h3⟩ := hr.cells n _ q
        exact ⟨n, vs, rfl, rfl, q, h1, h2, h3⟩
      | _ => cases e
  | _ => cases e
/-- a list written -/
theorem putL {D : Ends} {Z : Wit} {G : Hh} {H : Hp} {ρ : Rho} {σ : L2.St} {n : Nat} {xs ys : List W} {zs : List V} (hr : HRep C Z G H) (st : StRep C Z G.length H ρ σ) (hn : G[n]? = some (.lst xs)) (hS : Z.S (Z.α n)) (r : RepL C Z G.length H ys zs)
    (h : okS C Wx D Z G H (.nx ρ (G.set n (.lst ys)))) : D.nx σ (upd H (Z.α n) (.lst zs)) := by
  obtain ⟨vs, q1, q2, q3⟩ := hr.cells n _ hn
  have r' : RepL C Z G.length (upd H (Z.α n) (.lst zs)) ys zs := r.updD hS q1
  have x : Ext C Z G H Z (G.set n (.lst ys)) (upd H (Z.α n) (.lst zs)) := Ext.put hr hn (by simp) (by simp) ⟨zs, upd_same, r', hS⟩
  exact h Z _ σ x (st.ext x hr)
theorem s_append {a e : Expr} {f g : Rho → Hh → R W} {apos cpos pos : Pos} (hK : X.K = C.K) (ha : PE X a (tE C Wx f)) (he : PE X e (tE C Wx g)) (hse : isStar e = false) (hb : attributeBase a "append" X.env (eval a X.env) = eval a X.env) (hl : (apos.endLine == cpos.line) = true)
    (hs : swapsWith (.Call (.Attribute a "append" apos) [e] [] cpos) none pos.line X.env = pure false) :
    PS X (.Expr (.Call (.Attribute a "append" apos) [e] [] cpos) pos) (tSt C Wx fun ρ G => (f ρ G).thn ρ fun x G1 => if (lstOf x G1).isSome then (g ρ G1).thn ρ fun y G2 => evApp x y ρ G2 else .bad) := by
  have few : ((backTo cpos (starEach [e] X.env)).all (fun x => !x.1) && (backToKw cpos (keywordEach [] X.env)).all (fun x => x.1.isSome)
      && decide (([e] : List Expr).length + ([] : List Keyword).length + (if ([] : List Keyword).isEmpty then 0 else 1) < 30)) = true := by rw [star_plain hse]; rfl
  refine PS.mono (ps_expr (pe_bm PySem.F.plainAttrs_list PySem.F.slot_list_append PySem.F.type_list_append mt_append ha (pa_cons he pa_nil (star_plain hse)) hb few hl (star_plain hse) rfl) hs) fun D σ H ⟨ρ, Z, G, st, hr, h⟩ =>
    tS_bind st hr h fun x v Z1 G1 H1 m h1 => ?_
  obtain ⟨c, h1⟩ := okS.if_inv h1
  obtain ⟨xs0, e0⟩ := Option.isSome_iff_exists.mp c
  obtain ⟨n, vs0, rfl, rfl, hG0, hH0, _, _⟩ := lstOf_inv m.hr m.rep e0
  refine ⟨.inl ⟨rfl, vs0, by rw [hK]; exact SqL.of hH0⟩, tS_bind m.st m.hr h1 fun y u Z2 G2 H2 m2 h2 => ?_⟩
  have rx := m.rep.ext m2.x m.hr
  simp only [evApp] at h2
  cases e1 : lstOf (.ref n) G2 with
  | none => rw [e1] at h2; exact h2.elim
  | some xs =>
    rw [e1] at h2
    obtain ⟨hlen, h2⟩ := okS.if_inv h2
    obtain ⟨n', vs, en, ev, hG, hH, rl, hS⟩ := lstOf_inv m2.hr rx e1
    cases en
    rw [ev]
    exact ⟨Z2.α n, vs, u, rfl, rfl, hH, by rw [← rl.length, sizeLine_eq]; omega, putL m2.hr m2.st hG hS (rl.append (.cons m2.rep .nil)) h2⟩
/-- xs[i] = z -/
theorem setI {D : Ends} {Z : Wit} {G : Hh} {H : Hp} {ρ : Rho} {σ : L2.St} {x y z : W} {o i v : V} (hr : HRep C Z G H) (st : StRep C Z G.length H ρ σ) (rx : Rep C Z G.length H x o) (ry : Rep C Z G.length H y i) (rz : Rep C Z G.length H z v)
    (h : okS C Wx D Z G H (evSet x y z ρ G)) : rSetL o i v H fun H' => D.nx σ H' := by
  cases e : lstOf x G with
  | none => cases x <;> simp only [evSet, e] at h <;> exact h.elim
  | some xs =>
    obtain ⟨n, vs, rfl, rfl, hG, hH, rl, hS⟩ := lstOf_inv hr rx e
    cases y with
    | int k =>
      cases ry
      simp only [evSet, e] at h
      cases q : ixN xs.length k with
      | none => rw [q] at h; exact h.elim
      | some j =>
        rw [q] at h
        exact ⟨Z.α n, vs, k, j, rfl, rfl, hH, by rw [← rl.length]; exact q, putL hr st hG hS (rl.set rz j) h⟩
    | _ => simp only [evSet, e] at h; exact h.elim
theorem s_setL {a i e : Expr} {fa fi fe : Rho → Hh → R W} {p2 pos : Pos} (ha : PE X a (tE C Wx fa)) (hi : PE X i (tE C Wx fi)) (he : PE X e (tE C Wx fe))
    (hasg : ∀ v, assign (.Subscript a i p2) X.env v = (do
      let ov ← holding [v] (eval a X.env)
      let iv ← holding [v, ov] (eval i X.env)
      standAt p2
      holding [v, ov, iv] (setItem ov iv v)
      release [v, ov, iv] []))
    (hs : swapsWithSole [.Subscript a i p2] e pos.line X.env = pure false) (hw : swappedStores [.Subscript a i p2] e X.env = pure none) (h1 : (assignEach [.Subscript a i p2] X.env).map (·.2) = [assign (.Subscript a i p2) X.env]) :
    PS X (.Assign [.Subscript a i p2] e pos) (tSt C Wx fun ρ G => (fe ρ G).thn ρ fun z G1 => (fa ρ G1).thn ρ fun x G2 => (fi ρ G2).thn ρ fun y G3 => evSet x y z ρ G3) :=
  PS.mono (ps_asg he (pg_sub ha hi set_list hasg) hs hw h1) fun D σ H ⟨ρ, Z, G, st, hr, h⟩ => tS_bind st hr h fun z v Z1 G1 H1 m h1 => tS_bind m.st m.hr h1 fun x o Z2 G2 H2 m2 h2 => tS_bind m2.st m2.hr h2 fun y u Z3 G3 H3 m3 h3 =>
    setI m3.hr m3.st (m2.rep.ext m3.x m2.hr) m3.rep ((m.rep.ext m2.x m.hr).ext m3.x m2.hr) h3
/-! ### d[i] = z -/
theorem putX_rep {Z : Wit} {n : Nat} {H : Hp} {k : L2.Key} {z : W} {v : V} (r : Rep C Z n H z v) : ∀ {xs : List W} {kvs : List (L2.Key × V)}, RepL C Z n H xs (kvs.map (·.2)) → RepL C Z n H (putX k z (kvs.map (·.1)) xs) ((kvs.map fun kv => if kv.1 = k then (kv.1, v) else kv).map (·.2))
  | [], [], _ => .nil
  | x :: xs, p :: kvs, h => by
    cases h with
    | cons a b =>
      refine .cons ?_ (putX_rep r b)
      by_cases c : p.1 = k
      · simp only [if_pos c]; exact r
      · simp only [if_neg c]; exact a
theorem setD {D : Ends} {Z : Wit} {G : Hh} {H : Hp} {ρ : Rho} {σ : L2.St} {x y z : W} {o i v : V} (hr : HRep C Z G H) (st : StRep C Z G.length H ρ σ) (rx : Rep C Z G.length H x o) (ry : Rep C Z G.length H y i) (rz : Rep C Z G.length H z v)
    (h : okS C Wx D Z G H (evSetD x y z ρ G)) : ∃ a H4, o = .ref a ∧ DPut H a i v H4 ∧ D.nx σ H4 := by
  cases e : dctOf x G with
  | none => cases x <;> simp only [evSetD, e] at h <;> exact h.elim
  | some p =>
    obtain ⟨n, kvs, rfl, rfl, hG, hH, hk, rl, hS⟩ := dctOf_inv hr rx e
    cases e2 : keyOf y with
    | none => simp only [evSetD, e, e2] at h; exact h.elim
    | some k =>
      have ei : i = kV k := by
        cases y <;> simp only [keyOf] at e2 <;> cases e2 <;> cases ry <;> rfl
      subst ei
      simp only [evSetD, e, e2] at h
      obtain ⟨hl, h⟩ := okS.if_inv h
      rw [← hk] at hl
      refine ⟨_, _, rfl, DPut.k hH (by rw [sizeLine_eq]; rw [List.length_map] at hl; omega), ?_⟩
      have hany : (p.1.any fun j => decide (j = k)) = kvs.any fun kv => decide (kv.1 = k) := by rw [← hk, List.any_map]; rfl
      have new : CellRep C Z G.length (upd H (Z.α n) (.dK (putK kvs k v))) (Z.α n) (.dct (putKs k p.1) (putXs k z p.1 p.2)) := by
        have up : ∀ {ws : List W} {us : List V}, RepL C Z G.length H ws us → RepL C Z G.length (upd H (Z.α n) (.dK (putK kvs k v))) ws us := fun {ws us} r =>
          RepL.via (C := C) (Z := Z) (Z' := Z) (n := G.length) (m := G.length) (fun a vs r => by
            rcases r with (r | ⟨q, r⟩) | r
            · exact .inl (.inl (by rw [upd_ne (fun z => by rw [z, hH] at r; cases r)]; exact r))
            · exact .inl (.inr ⟨q, by rw [upd_ne (fun z => by rw [z, hH] at r; cases r)]; exact r⟩)
            · exact .inr r) (fun a vs r => by
            rcases r with ⟨r, ns⟩ | r
            · have ne : a ≠ Z.α n := fun z => ns (z ▸ hS)
              refine .inl ⟨?_, ns⟩
              rcases r with r | ⟨q, r⟩
              · exact .inl (by rw [upd_ne ne]; exact r)
              · exact .inr ⟨q, by rw [upd_ne ne]; exact r⟩
            · exact .inr r) (fun j hj => ⟨hj, rfl⟩) (fun a φ r => by rw [upd_ne (fun z => by rw [z, hH] at r; cases r)]; exact r) r
        refine ⟨putK kvs k v, upd_same, ?_, up ?_, hS⟩
        · unfold putK putKs
          rw [hany]
          by_cases c : (kvs.any fun kv => decide (kv.1 = k)) = true
          · rw [if_pos c, if_pos c, List.map_map, ← hk]
            refine List.map_congr_left fun q _ => ?_
            show (if q.1 = k then (q.1, v) else q).1 = q.1
            split <;> rfl
          · rw [if_neg c, if_neg c, List.map_append, hk]
            rfl
        · unfold putK putXs
          rw [hany]
          by_cases c : (kvs.any fun kv => decide (kv.1 = k)) = true
          · rw [if_pos c, if_pos c, ← hk]
            exact putX_rep rz rl
          · rw [if_neg c, if_neg c, List.map_append]
            exact rl.append (.cons rz .nil)
      have xt := Ext.put hr hG (by simp) (by simp) new
      exact h Z _ σ xt (st.ext xt hr)
theorem s_setD {a i e : Expr} {fa fi fe : Rho → Hh → R W} {p2 pos : Pos} (hu : X.A.units + 1 < cLine) (ha : PE X a (tE C Wx fa)) (hi : PE X i (tE C Wx fi)) (he : PE X e (tE C Wx fe)) (hs : swapsWith e (some (.Subscript a i p2)) pos.line X.env = pure false) :
    PS X (.Assign [.Subscript a i p2] e pos) (tSt C Wx fun ρ G => (fe ρ G).thn ρ fun z G1 => (fa ρ G1).thn ρ fun x G2 => (fi ρ G2).thn ρ fun y G3 => evSetD x y z ρ G3) :=
  PS.mono (ps_dput hu ha hi he hs) fun D σ H ⟨ρ, Z, G, st, hr, h⟩ => tS_bind st hr h fun z v Z1 G1 H1 m h1 => tS_bind m.st m.hr h1 fun x o Z2 G2 H2 m2 h2 => tS_bind m2.st m2.hr h2 fun y u Z3 G3 H3 m3 h3 =>
    setD m3.hr m3.st (m2.rep.ext m3.x m2.hr) m3.rep ((m.rep.ext m2.x m.hr).ext m3.x m2.hr) h3
/-! ### o.f = e -/
theorem lookup_some_of_mem {f : Str} : ∀ {fs : List (Str × V)}, (∃ v, fs.lookup f = some v) → f ∈ fs.map (·.1)
  | [], h => by obtain ⟨v, h⟩ := h; cases h
  | (g, x) :: r, h => by
    by_cases q : f = g
    · rw [q]; exact List.mem_cons_self ..
    · have hb : (f == g) = false := beq_eq_false_iff_ne.mpr q
      obtain ⟨v, h⟩ := h
      simp only [List.lookup, hb] at h
      exact List.mem_cons_of_mem _ (lookup_some_of_mem ⟨v, h⟩)
theorem putF_len {f : Str} {v : V} : ∀ {fs : List (Str × V)}, f ∈ fs.map (·.1) → (putF f v fs).length = fs.length
  | [], h => by cases h
  | (g, x) :: r, h => by
    by_cases q : g = f
    · simp only [putF, if_pos q, List.length_cons]
    · simp only [putF, if_neg q, List.length_cons]
      rw [putF_len ((List.mem_cons.mp h).resolve_left fun z => q z.symm)]
theorem filter_set : ∀ {fs : List (Option W)} {j : Nat} {w : W}, j < fs.length → ((fs.set j (some w)).filter (·.isSome)).length = (fs.filter (·.isSome)).length + (match fs[j]? with | some none => 1 | _ => 0)
  | [], j, w, h => by cases h
  | o :: r, 0, w, h => by
    cases o with
    | none => simp [List.filter]
    | some x => simp [List.filter]
  | o :: r, j + 1, w, h => by
    have ih := filter_set (fs := r) (j := j) (w := w) (by simpa using h)
    cases o with
    | none => simpa [List.filter] using ih
    | some x =>
      simp only [List.set_cons_succ, List.filter, Option.isSome, List.length_cons, List.getElem?_cons_succ] at ih ⊢
      rw [ih]
      generalize (match r[j]? with | some none => 1 | _ => 0 : Nat) = q
      omega
theorem FldRep.put {Z : Wit} {n : Nat} {H : Hp} {names : List Str} {fs : List (Option W)} {fv : List (Str × V)} {j : Nat} {f : Str} {w : W} {v : V} (r : FldRep C Z n H names fs fv) (hj : names[j]? = some f) (hlt : j < fs.length) (rv : Rep C Z n H w v) : FldRep C Z n H names (fs.set j (some w)) (putF f v fv) := by
  have inj : ∀ {i : Nat} {g : Str}, names[i]? = some g → (g = f ↔ i = j) := fun {i g} hi => ⟨fun e => L2.nodup_ix r.nd hi (e ▸ hj), fun e => by
    subst e
    rw [hi] at hj
    exact Option.some.inj hj⟩
  refine ⟨by rw [List.length_set]; exact r.len, r.nd, fun g hg => ?_, fun i g hi e => ?_, fun i g x hi e => ?_, ?_⟩
  · rw [lookup_putF, if_neg (fun z => hg (by rw [z]; exact List.mem_of_getElem? hj))]
    exact r.out g hg
  · by_cases q : i = j
    · subst q
      rw [List.getElem?_set_self hlt] at e
      cases e
    · rw [List.getElem?_set_ne (Ne.symm q)] at e
      rw [lookup_putF, if_neg (fun z => q ((inj hi).mp z))]
      exact r.no i g hi e
  · by_cases q : i = j
    · subst q
      rw [List.getElem?_set_self hlt] at e
      cases e
      rw [lookup_putF, if_pos ((inj hi).mpr rfl)]
      exact ⟨v, rfl, rv⟩
    · rw [List.getElem?_set_ne (Ne.symm q)] at e
      rw [lookup_putF, if_neg (fun z => q ((inj hi).mp z))]
      exact r.yes i g x hi e
  · rw [filter_set hlt]
    cases e : fs[j]? with
    | none => exact absurd (List.getElem?_eq_none_iff.mp e) (by omega)
    | some o =>
      cases o with
      | none =>
        show _ ≤ _ + 1
        have := length_putF f v fv
        have := r.few
        omega
      | some x =>
        show _ ≤ _ + 0
        obtain ⟨u, hu, _⟩ := r.yes j f x hj e
        rw [putF_len (lookup_some_of_mem ⟨u, hu⟩)]
        exact r.few
theorem RepL.putI {Z : Wit} {G : Hh} {H : Hp} {n c : Nat} {fs : List (Option W)} {dx : Addr} {fv gv : List (Str × V)} (hr : HRep C Z G H) (hS : Z.S (Z.α n)) (hH : H (Z.α n) = some (.ins (C.ca c) dx fv)) {w : W} {v : V} (r : Rep C Z G.length H w v) : Rep C Z G.length (upd H (Z.α n) (.ins (C.ca c) dx gv)) w v := by
  refine Rep.via (C := C) (Z := Z) (Z' := Z) (n := G.length) (m := G.length) (fun a vs r => ?_) (fun a vs r => ?_) (fun j hj => ⟨hj, rfl⟩) (fun a φ r => ?_) r
  · rcases r with (r | ⟨q, r⟩) | r
    · exact .inl (.inl (by rw [upd_ne (fun z => by rw [z, hH] at r; cases r)]; exact r))
    · exact .inl (.inr ⟨q, by rw [upd_ne (fun z => by rw [z, hH] at r; cases r)]; exact r⟩)
    · exact .inr r
  · rcases r with ⟨r, ns⟩ | r
    · have ne : a ≠ Z.α n := fun z => ns (z ▸ hS)
      refine .inl ⟨?_, ns⟩
      rcases r with r | ⟨q, r⟩
      · exact .inl (by rw [upd_ne ne]; exact r)
      · exact .inr ⟨q, by rw [upd_ne ne]; exact r⟩
    · exact .inr r
  · rw [upd_ne (fun z => by rw [z, hH] at r; cases r)]; exact r
theorem s_setF {a e : Expr} {x f : Str} {c j : Nat} {fa fe : Rho → Hh → R W} {p2 pos : Pos} (xf : XF C k X Wx) (hc : C.D.cn[c]? = some x) (hj : (C.fl c)[j]? = some f) (ha : PE X a (tE C Wx fa)) (he : PE X e (tE C Wx fe)) (hs : swapsWith e (some (.Attribute a f p2)) pos.line X.env = pure false) :
    PS X (.Assign [.Attribute a f p2] e pos) (tSt C Wx fun ρ G => (fe ρ G).thn ρ fun z G1 => (fa ρ G1).thn ρ fun x G2 => evStF c j x z ρ G2) := by
  refine PS.mono (ps_fld ha he hs) fun D σ H ⟨ρ, Z, G, st, hr, h⟩ => tS_bind st hr h fun z v Z1 G1 H1 m h1 => tS_bind m.st m.hr h1 fun y o Z2 G2 H2 m2 h2 => ?_
  cases e0 : insOf c y G2 with
  | none => cases y <;> simp only [evStF, e0] at h2 <;> exact h2.elim
  | some fs =>
    obtain ⟨n, dx, fv, rfl, rfl, hn, hG, h3, h4, h5⟩ := insOf_inv m2.hr m2.rep e0
    simp only [evStF, e0] at h2
    obtain ⟨hlt, h2⟩ := okS.if_inv h2
    obtain ⟨hcl, _, hna, hsz⟩ := xf.txt.cls c x hc
    have rz := m.rep.ext m2.x m.hr
    have few : fv.length < 1000 := by
      have h6 := h4.few
      have h7 := List.length_filter_le (fun o : Option W => o.isSome) fs
      have h8 := h4.len
      omega
    refine ⟨Z2.α n, C.ca c, dx, fv, rfl, h3, hcl, hna f (List.mem_of_getElem? hj), few, ?_⟩
    have hf : FldRep C Z2 G2.length (upd H2 (Z2.α n) (.ins (C.ca c) dx (putF f v fv))) (C.fl c) (fs.set j (some z)) (putF f v fv) :=
      (h4.put hj hlt rz).map fun w u _ r => RepL.putI (fs := fs) m2.hr h5 h3 r
    have xt : Ext C Z2 G2 H2 Z2 (G2.set n (.ins c (fs.set j (some z)))) (upd H2 (Z2.α n) (.ins (C.ca c) dx (putF f v fv))) := Ext.put m2.hr hG (by simp) (by simp) ⟨dx, _, upd_same, hf, h5⟩
    exact h2 Z2 _ σ xt (m2.st.ext xt m2.hr)
end
end PI
end

section
set_option autoImplicit false
/-! PI12: unpacking; loops. -/
namespace PI
open PySem L2
section
variable (C : Cn)
def tGs (Wx : WX) (f : List W → Rho → Hh → RS) : TGs := fun vs σ H Q => ∃ (D : Ends) (ws : List W) (ρ : Rho) (Z : Wit) (G : Hh), D.nx = Q ∧ RepL C Z G.length H ws vs ∧ StRep C Z G.length H ρ σ ∧ HRep C Z G H ∧ okS C Wx D Z G H (f ws ρ G)
end
section
variable {C : Cn} {Wx : WX} {X : Cx} {k : Nat}
theorem PGs.mono {ts : List Expr} {t t' : TGs} (h : PGs X ts t) (i : ∀ vs σ H Q, t' vs σ H Q → t vs σ H Q) : PGs X ts t' := ⟨fun pins s σ H vs us Q I r q => h.run pins s σ H vs us Q I r (i vs σ H Q q)⟩
theorem s_gnil : PGs X [] (tGs C Wx fun ws ρ G => match ws with
    | [] => .nx ρ G
    | _ => .bad) := PGs.mono pgs_nil fun vs σ H Q ⟨D, ws, ρ, Z, G, hD, r, st, hr, h⟩ => by
  cases ws with
  | nil => cases r; subst hD; exact ⟨rfl, okS.next hr h st⟩
  | cons _ _ => exact h.elim
theorem s_gnm {i : Nat} {x : Str} {p : Pos} {es : List Expr} {f : List W → Rho → Hh → RS} (hN : X.N.Nodup) (hi : X.N[i]? = some x) (hx : Loc X.env.scope x) (hf : X.fn x = true ∨ X.env.scope.names.lookup x = some .local) (hr2 : PGs X es (tGs C Wx f))
    (hs : (assignEach (.Name x p :: es) X.env).map (·.2) = assign (.Name x p) X.env :: (assignEach es X.env).map (·.2)) :
    PGs X (.Name x p :: es) (tGs C Wx fun ws ρ G => match ws with
    | w :: r => f r (ρ.set i (some w)) G
    | _ => .bad) := PGs.mono (pgs_cons (pg_name hN hi hx hf) hr2 hs) fun vs σ H Q ⟨D, ws, ρ, Z, G, hD, r, st, hr, h⟩ => by
  cases ws with
  | nil => exact h.elim
  | cons w ws =>
    cases r with
    | cons rv rr => exact ⟨_, _, rfl, D, ws, _, Z, G, hD, rr, st.set i rv, hr, h⟩
theorem s_gsub {a i : Expr} {p2 : Pos} {es : List Expr} {fa fi : Rho → Hh → R W} {f : List W → Rho → Hh → RS} (ha : PE X a (tE C Wx fa)) (hi : PE X i (tE C Wx fi))
    (hasg : ∀ v, assign (.Subscript a i p2) X.env v = (do
      let ov ← holding [v] (eval a X.env)
      let iv ← holding [v, ov] (eval i X.env)
      standAt p2
      holding [v, ov, iv] (setItem ov iv v)
      release [v, ov, iv] [])) (hr2 : PGs X es (tGs C Wx f))
    (hs : (assignEach (.Subscript a i p2 :: es) X.env).map (·.2) = assign (.Subscript a i p2) X.env :: (assignEach es X.env).map (·.2)) :
    PGs X (.Subscript a i p2 :: es) (tGs C Wx fun ws ρ G => match ws with
    | z :: r => (fa ρ G).thn ρ fun x G1 => (fi ρ G1).thn ρ fun y G2 => (evSet x y z ρ G2).thn fun ρ2 G3 => f r ρ2 G3
    | _ => .bad) := PGs.mono (pgs_cons (pg_sub ha hi set_list hasg) hr2 hs) fun vs σ H Q ⟨D, ws, ρ, Z, G, hD, r, st, hr, h⟩ => by
  cases ws with
  | nil => exact h.elim
  | cons z ws =>
    cases r with
    | @cons _ _ _ vr rv rr =>
      refine ⟨_, _, rfl, tS_bind st hr h fun x o Z1 G1 H1 m h1 => tS_bind m.st m.hr h1 fun y u Z2 G2 H2 m2 h2 => ?_⟩
      have x12 := m.x.trans m2.x
      have h3 := okS.seq h2 m2.hr
      have h4 : okS C Wx { nx := fun σ' H' => (tGs C Wx f) vr σ' H' Q, rt := D.rt } Z2 G2 H2 (evSet x y z ρ G2) := by
        cases e : evSet x y z ρ G2 with
        | nx ρ' G' =>
          rw [e] at h2
          intro Z' H' σ' xx st'
          exact ⟨D, ws, ρ', Z', G', hD, (rr.ext x12 hr).ext xx m2.hr, st', xx.hr, okS.ext h2 xx⟩
        | rt w G' => rw [e] at h3; exact h3
        | ex c p ρ' G' => rw [e] at h3; exact h3
        | bad => rw [e] at h3; exact h3
      exact setI m2.hr m2.st (m.rep.ext m2.x m.hr) m2.rep (rv.ext x12 hr) h4
theorem s_unp {es : List Expr} {kk n : Nat} {p pos : Pos} {e : Expr} {fe : Rho → Hh → R W} {f : List W → Rho → Hh → RS} (hK : X.K = C.K) (hc : X.calm = true) (he : PE X e (tE C Wx fe)) (hg : PGs X es (tGs C Wx f))
    (hn : (assignEach es X.env).length = n) (hst : (assignEach es X.env).findIdx? (·.1) = none) (hs : swapsWithSole [.Tuple es kk p] e pos.line X.env = pure false) (hw : swappedStores [.Tuple es kk p] e X.env = pure none)
    (h1 : (assignEach [.Tuple es kk p] X.env).map (·.2) = [assign (.Tuple es kk p) X.env]) :
    PS X (.Assign [.Tuple es kk p] e pos) (tSt C Wx fun ρ G => (fe ρ G).thn ρ fun x G1 => match x with
      | .tup xs => if xs.length = n then f xs ρ G1 else .bad
      | _ => .bad) :=
  PS.mono (ps_asg he (pg_tup hc hg hn hst) hs hw h1) fun D σ H ⟨ρ, Z, G, st, hr, h⟩ => tS_bind st hr h fun x v Z1 G1 H1 m h1 => by
    have rv := m.rep
    cases rv with
    | tup s r =>
      obtain ⟨c, h1⟩ := okS.if_inv h1
      exact ⟨_, _, rfl, by rw [hK]; exact s, by rw [← r.length]; exact c, D, _, ρ, Z1, G1, rfl, r, m.st, m.hr, h1⟩
    | _ => exact h1.elim
/-! ### for -/
def forStep (tg : Tg) (fb : Rho → Hh → RS) : W → Rho → Hh → RS := fun x ρ2 G2 => match bindTg tg x ρ2 with
  | some ρ3 => fb ρ3 G2
  | none => .bad
theorem okI_thn {σ : L2.St} {D : Ends} {ρ : Rho} {Z : Wit} {G : Hh} {H : Hp} {r : R (List W)} {k : List W → Hh → RS} {P : It → Hp → Prop} (st : StRep C Z G.length H ρ σ) (hr : HRep C Z G H) (h : okS C Wx D Z G H (r.thn ρ k))
    (hk : ∀ xs J Z1 G1 H1, Ext C Z G H Z1 G1 H1 → Wk C J xs Z1 G1 H1 → okS C Wx D Z1 G1 H1 (k xs G1) → P J H1) : okI C Wx σ Z G H r P := by
  cases r with
  | ok xs G1 => exact fun Z1 H1 J x wk => hk xs J Z1 G1 H1 x wk (okS.ext h x)
  | ex c p G1 => exact fun Z' H' d x ea => h Z' H' σ d x (st.ext x hr) ea
  | bad => exact h
theorem s_for {tge iter : Expr} {tg : Tg} {body : List Stmt} {g : TG} {fi : Rho → Hh → R (List W)} {fb : Rho → Hh → RS} {pos : Pos} (hp : PassesOwn (model X.prog X.w) X.A X.env X.xe) (hc : X.calm = true) (hi : L2.PI X tge iter (tI C Wx fi)) (hg : PG X tge g) (ht : TgOk C g tg) (hb : PSs X body (tSt C Wx fb))
    (hs : ∀ x, foldedSetIterable iter X.env x = pure x) :
    PS X (.For tge iter body [] pos) (tSt C Wx fun ρ G => (fi ρ G).thn ρ fun xs G1 => loopRun (forStep tg fb) xs ρ G1) := by
  refine PS.mono (ps_for hp hc hi hg hb hs) fun D σ H ⟨ρ, Z, G, st, hr, h⟩ => ⟨ρ, Z, G, st, hr, okI_thn st hr h fun xs J Z1 G1 H1 x1 wk h1 => ?_⟩
  refine ⟨fun i m σ2 H2 => m = xs.length - i ∧ i ≤ xs.length ∧ ∃ ρ2 Z2 G2, Ext C Z1 G1 H1 Z2 G2 H2 ∧ StRep C Z2 G2.length H2 ρ2 σ2 ∧ okS C Wx D Z2 G2 H2 (loopRun (forStep tg fb) (xs.drop i) ρ2 G2),
    ⟨xs.length, by simp, Nat.zero_le _, ρ, Z1, G1, Ext.refl x1.hr, st.ext x1 hr, by simpa using h1⟩, ?_⟩
  rintro i m σ2 H2 ⟨rfl, hi, ρ2, Z2, G2, x2, st2, h2⟩
  by_cases hlt : i < xs.length
  · refine .inr ⟨wk.go Z2 G2 H2 x2 i hlt, fun σ3 H3 => ∃ ρ2 Z2 G2, Ext C Z1 G1 H1 Z2 G2 H3 ∧ StRep C Z2 G2.length H3 ρ2 σ3 ∧ okS C Wx D Z2 G2 H3 (loopRun (forStep tg fb) (xs.drop (i + 1)) ρ2 G2), fun σ' H' q => ⟨xs.length - (i + 1), by omega, rfl, hlt, q⟩, fun v H3 y3 => ?_⟩
    obtain ⟨Z3, x3, r3⟩ := wk.yld Z2 G2 H2 x2 i xs[i] v H3 (List.getElem?_eq_getElem hlt) y3
    rw [List.drop_eq_getElem_cons hlt] at h2
    simp only [loopRun, forStep] at h2
    cases eb : bindTg tg xs[i] ρ2 with
    | none => rw [eb] at h2; exact h2.elim
    | some ρ3 =>
      rw [eb] at h2
      refine ht Z3 G2 H3 ρ2 ρ3 σ2 _ v _ x3.hr (st2.ext x3 x2.hr) r3 eb fun σ3 st3 _ => ?_
      refine ⟨ρ3, Z3, G2, st3, x3.hr, ?_⟩
      have h3 := okS.ext h2 x3
      cases e : fb ρ3 G2 with
      | nx ρ4 G4 =>
        simp only [e] at h3
        exact fun Z4 H4 σ4 x4 st4 => ⟨ρ4, Z4, G4, (x2.trans x3).trans x4, st4, okS.ext h3 x4⟩
      | rt w G4 =>
        simp only [e] at h3
        exact h3
      | ex c p ρ4 G4 =>
        simp only [e] at h3
        exact h3
      | bad =>
        simp only [e] at h3
        exact h3
  · have ei : i = xs.length := by omega
    subst ei
    refine .inl ⟨wk.stop Z2 G2 H2 x2, ?_⟩
    rw [List.drop_length] at h2
    exact okS.next x2.hr h2 st2
/-! ### while -/
theorem s_while {c : Expr} {body : List Stmt} {ft : Rho → Hh → R Bool} {fb : Rho → Hh → RS} {pos : Pos} {n : Nat} (hp : PassesOwn (model X.prog X.w) X.A X.env X.xe) (hc : PT X c (tT C Wx ft)) (hb : PSs X body (tSt C Wx fb)) :
    PS X (.While c body [] pos) (tSt C Wx fun ρ G => whRun ft fb n ρ G) := by
  refine PS.mono (ps_while hp hc hb) fun D σ H ⟨ρ, Z, G, st, hr, h⟩ => ?_
  refine ⟨fun m σ2 H2 => ∃ ρ2 Z2 G2, StRep C Z2 G2.length H2 ρ2 σ2 ∧ HRep C Z2 G2 H2 ∧ okS C Wx D Z2 G2 H2 (whRun ft fb m ρ2 G2), ⟨n, ρ, Z, G, st, hr, h⟩, ?_⟩
  rintro m σ2 H2 ⟨ρ2, Z2, G2, st2, hr2, h2⟩
  cases m with
  | zero => exact h2.elim
  | succ m =>
    simp only [whRun] at h2
    refine tS_bind (rel := relB) st2 hr2 h2 fun x b Z3 G3 H3 m3 h3 => ?_
    have e : x = b := m3.rep
    subst e
    cases x with
    | false =>
      rw [if_neg Bool.false_ne_true]
      exact okS.next m3.hr h3 m3.st
    | true =>
      rw [if_pos rfl]
      refine ⟨fun σ4 H4 => ∃ ρ2 Z2 G2, StRep C Z2 G2.length H4 ρ2 σ4 ∧ HRep C Z2 G2 H4 ∧ okS C Wx D Z2 G2 H4 (whRun ft fb m ρ2 G2), fun σ' H' q => ⟨m, Nat.lt_succ_self _, q⟩, ρ2, Z3, G3, m3.st, m3.hr, ?_⟩
      cases e : fb ρ2 G3 with
      | nx ρ4 G4 =>
        simp only [e, if_true] at h3
        exact fun Z4 H4 σ4 x4 st4 => ⟨ρ4, Z4, G4, st4, x4.hr, okS.ext h3 x4⟩
      | rt w G4 =>
        simp only [e, if_true] at h3
        exact h3
      | ex c p ρ4 G4 =>
        simp only [e, if_true] at h3
        exact h3
      | bad =>
        simp only [e, if_true] at h3
        exact h3
end
end PI
end

section
set_option autoImplicit false
/-! PI13: raise, try. -/
namespace PI
open PySem L2 PyProof.Rows
section
variable {C : Cn} {Wx : WX} {X : Cx} {k : Nat}
/-! ### raise X(e) -/
theorem del_lay {H : Hp} {a dx : Addr} {o1 o2 o3 o4 : HO} (ha : H a = none) (hd : dx ≠ a) : upd (del (upd (upd (upd H a o1) dx o2) a o3) a) dx o4 = upd H dx o4 := by
  funext b
  by_cases h1 : b = dx
  · subst h1
    rw [upd_same, upd_same]
  · rw [upd_ne h1, upd_ne h1]
    by_cases h2 : b = a
    · subst h2
      rw [del_same, ha]
    · rw [del_ne h2, upd_ne h2, upd_ne h1, upd_ne h2]
theorem s_raise1 {c : Nat} {x : Str} {e : Expr} {f : Rho → Hh → R W} {p cpos pos : Pos} (xf : XF C k X Wx) (hx : C.D.xn[c]? = some x) (hne : C.xf c ≠ "") (hg : Gl X x) (hdb : (x == ("__debug__" : Str)) = false) (hs : isStar e = false) (he : PE X e (tE C Wx f)) :
    PS X (.Raise (some (.Call (.Name x p) [e] [] cpos)) none pos) (tSt C Wx fun ρ G => (f ρ G).thn ρ fun x G1 => .ex c (some x) ρ G1) := by
  obtain ⟨T, fI, fd, ps, iC, tI, F1, hb⟩ := xf.exi c x hx hne
  obtain ⟨hm, _, _⟩ := xf.ext.exc c x hx
  have hpass : Passes (L2.CX X.prog X.w) X (fun _ _ _ => False) := fun _ _ _ _ _ _ _ h => by
    obtain ⟨_, _, _, _, _, _, _, _, _, _, _, _, z⟩ := h
    exact z.elim
  refine PS.mono (ps_raise xf.calm xf.tk (pmk_oex T iC tI F1 (xf.room.mono (by omega)) hb .nil hpass hg hm (pa_cons he pa_nil (star_plain hs)) hdb (star_plain hs) rfl)) fun D σ H ⟨ρ, Z, G, st, hr, h⟩ => ?_
  refine tS_bind st hr h fun y v Z1 G1 H1 m h1 => ⟨by simp, fun a ha => ⟨a, v, rfl, upd_same, fun dx hd hda => ⟨rfl, dx, [(C.xf c, v)], by rw [upd_same], by rw [upd_ne hda, upd_same], ?_, ?_⟩⟩⟩
  · rw [upd_ne hda] at hd
    exact hd
  · rw [upd_ne hda] at hd
    rw [del_lay ha hda]
    have xt := Ext.grow m.hr (same_new (o := .xd [(C.xf c, v)]) hd)
    exact h1 Z1 _ σ (some dx) xt (m.st.ext xt m.hr) ⟨dx, v, rfl, upd_same, m.rep.ext xt m.hr⟩

/-! ### except suites -/
theorem isE_call {a D : Addr} {oe : Obj} {pn : List (Addr × Obj)} {dd : Addr} (E : ExcC X.K D) (hz : Zc (.ref D) (some dd) oe) (hf : ∃ vs, oe.data = .fields vs) :
    CallR (X.suite a ((a, oe) :: pn)) (.builtin "isinstance") (fun xs H Q => ∃ (c : V) (cv : Value) (b : Bool) (fs : List (Str × V)), xs = [.ref a, c] ∧ (∀ u, RelV c u → u = cv) ∧ H dd = some (.xd fs) ∧ PySem.W.kitOne X.K (.ref D) cv = some b ∧ Q (.bl b) H) := by
  intro pins s σ H xs us Q I rr h
  obtain ⟨c, cv, b, fs, rfl, hcv, hdd, e, q⟩ := h
  obtain ⟨u1, u2, rfl, rx, rc⟩ := rr.two
  obtain rfl : u1 = Value.ref a := rx
  obtain rfl := hcv _ rc
  obtain ⟨hget, _⟩ := I.pin (a, oe) (List.mem_append_left _ List.mem_cons_self)
  obtain ⟨vs, hv⟩ := hf
  obtain ⟨mA, hns, _⟩ := (show ObjOk X.prog X.w H s.heap dd (.xd fs) from I.hok dd _ hdd)
  obtain ⟨od, ho, _⟩ := lookIn_ns hns
  have J : PySem.W.InstAt s.heap a oe D (some od) := ⟨hget, hz.1, by unfold PySem.W.notCls; rw [hv] <;> rfl, by rw [hz.2]; exact ho⟩
  have hcl : (PySem.W.clsIn X.K D).isSome = true := by
    obtain ⟨cd, hc, _⟩ := PySem.W.any_some E.hd
    rw [hc]; rfl
  exact PySem.W.kia_one (PySem.W.kitx_exc hcl E.hg E.hk E.hs E.ha E.hn E.ht E.hm) I.kIn J e (fun z => nomatch z) fun tk => ⟨.bl b, H, I.kept (t' := tk) fun _ _ z => z, rfl, q⟩
/-- what a suite's expression gives -/
def tSE (C : Cn) (a : Addr) (cls : Value) (d : Option Addr) (ei : Option Nat) (se : SE) : TE := fun σ H Q => ∃ (c : Nat) (p : Option W) (Z : Wit) (G : Hh) (w : W), cls = .ref (C.xa c) ∧ HRep C Z G H ∧ ExcAt C Z G H c p d ∧
  (∀ i, ei = some i → i < σ.length → σ[i]? = some (some (.ref a))) ∧ evSE C.D.L c p se = some w ∧ ∀ v, Rep C Z G.length H w v → Q v H
section
variable {a : Addr} {oe : Obj} {cls : Value} {d : Option Addr} {pn : List (Addr × Obj)} {ei : Option Nat}
theorem se_non {j : Nat} {pos : Pos} : PE (X.suite a ((a, oe) :: pn)) (.Constant .none j pos) (tSE C a cls d ei (.c .non)) := PE.mono pe_non fun σ H Q ⟨c, p, Z, G, w, ec, hr, ea, hei, ev, h⟩ => by
  cases ev; exact h _ .non
theorem se_bl {b : Bool} {j : Nat} {pos : Pos} : PE (X.suite a ((a, oe) :: pn)) (.Constant (.bool b) j pos) (tSE C a cls d ei (.c (.bl b))) := PE.mono pe_bl fun σ H Q ⟨c, p, Z, G, w, ec, hr, ea, hei, ev, h⟩ => by
  cases ev; exact h _ (.bl b)
theorem se_int {b : Int} {j : Nat} {pos : Pos} : PE (X.suite a ((a, oe) :: pn)) (.Constant (.int b) j pos) (tSE C a cls d ei (.c (.int b))) := PE.mono pe_int fun σ H Q ⟨c, p, Z, G, w, ec, hr, ea, hei, ev, h⟩ => by
  cases ev; exact h _ (.int b)
theorem se_str {b : Str} {j : Nat} {pos : Pos} : PE (X.suite a ((a, oe) :: pn)) (.Constant (.str b) j pos) (tSE C a cls d ei (.c (.str b))) := PE.mono pe_str fun σ H Q ⟨c, p, Z, G, w, ec, hr, ea, hei, ev, h⟩ => by
  cases ev; exact h _ (.str b)
theorem se_fld {i dc : Nat} {n x f : Str} {p1 pos : Pos} (et : ExcTxt C X.w X.K X.mg) (hN : X.N[i]? = some n) (hv : Vis X.env.scope n) (hdb : (n == ("__debug__" : Str)) = false) (hcd : (n == ("__classdict__" : Str)) = false) (hx : C.D.xn[dc]? = some x) (hf : C.xf dc = f)
    (hz : Zc cls d oe) (hfs : ∃ vs, oe.data = .fields vs) : PE (X.suite a ((a, oe) :: pn)) (.Attribute (.Name n p1) f pos) (tSE C a cls d (some i) (.fld dc)) := by
  obtain ⟨_, E, hno⟩ := et.exc dc x hx
  rw [hf] at hno
  refine ⟨fun pins s σ H Q I ⟨c, p, Z, G, w, ec, hr, ea, hei, ev, h⟩ => ?_⟩
  have hlt : i < σ.length := by
    rw [I.len]
    exact (List.getElem?_eq_some_iff.mp hN).1
  refine (pe_xf (C := C.xa dc) ⟨E.hg, E.hk, E.hs, E.hd⟩ hno hz hfs (pe_var (X := X.suite a ((a, oe) :: pn)) (i := i) (pos := p1) hN hv hdb hcd) rfl).run pins s σ H Q I ?_
  simp only [evSE] at ev
  by_cases q : c = dc
  · rw [if_pos q] at ev
    subst q
    subst ev
    obtain ⟨dd, v, rfl, hdd, rv⟩ := ea
    rw [hf] at hdd
    exact ⟨.ref a, hei i rfl hlt, rfl, ec, dd, _, v, rfl, hdd, by simp [List.lookup], h v rv⟩
  · rw [if_neg q] at ev
    cases ev
theorem se_isx {i dc : Nat} {n x : Str} {p p1 p2 pos : Pos} (et : ExcTxt C X.w X.K X.mg) (hN : X.N[i]? = some n) (hv : Vis X.env.scope n) (hdb : (n == ("__debug__" : Str)) = false) (hcd : (n == ("__classdict__" : Str)) = false) (hx : C.D.xn[dc]? = some x)
    (hg : Gl X "isinstance") (hm : X.mg "isinstance" = none) (hgx : Gl X x) (hdx : (x == ("__debug__" : Str)) = false)
    (hz : Zc cls d oe) (hfs : ∃ vs, oe.data = .fields vs) (hall : ∀ c : Nat, (C.D.L.subs[c]?).isSome = true → ∃ y, C.D.xn[c]? = some y) :
    PE (X.suite a ((a, oe) :: pn)) (.Call (.Name "isinstance" p) [.Name n p1, .Name x p2] [] pos) (tSE C a cls d (some i) (.isx dc)) := by
  obtain ⟨hmx, _, _⟩ := et.exc dc x hx
  refine ⟨fun pins s σ H Q I ⟨c, p', Z, G, w, ec, hr, ea, hei, ev, h⟩ => ?_⟩
  have hlt : i < σ.length := by
    rw [I.len]
    exact (List.getElem?_eq_some_iff.mp hN).1
  subst ec
  simp only [evSE] at ev
  cases es : C.D.L.subs[c]? with
  | none => rw [es] at ev; cases ev
  | some ds =>
    rw [es] at ev
    cases ev
    obtain ⟨y, hy⟩ := hall c (by rw [es]; rfl)
    obtain ⟨_, E, _⟩ := et.exc c y hy
    cases p' with
    | none =>
      cases (show d = none from ea)
      refine (pe_callB (X := X.suite a ((a, oe) :: pn)) (call_isE E hz hfs) hg hm boot_isi (pa_cons (pe_var (i := i) hN hv hdb hcd) (pa_cons (pe_glob (v := .ref (C.xa dc)) hgx hmx rfl hdx) pa_nil rfl) rfl) (by decide +kernel) (by decide +kernel) rfl rfl).run pins s σ H Q I ?_
      exact ⟨.ref a, hei i rfl hlt, .ref (C.xa dc), .ref (C.xa dc), ds.contains dc, rfl, fun u hu => hu, (et.sub c ds es dc x hx).2, h _ (.bl _)⟩
    | some w' =>
      obtain ⟨dd, v, ed, hdd, rv⟩ := ea
      cases ed
      refine (pe_callB (X := X.suite a ((a, oe) :: pn)) (isE_call E hz hfs) hg hm boot_isi (pa_cons (pe_var (i := i) hN hv hdb hcd) (pa_cons (pe_glob (v := .ref (C.xa dc)) hgx hmx rfl hdx) pa_nil rfl) rfl) (by decide +kernel) (by decide +kernel) rfl rfl).run pins s σ H Q I ?_
      exact ⟨.ref a, hei i rfl hlt, .ref (C.xa dc), .ref (C.xa dc), ds.contains dc, _, rfl, fun u hu => hu, hdd, (et.sub c ds es dc x hx).2, h _ (.bl _)⟩
theorem se_ife {t e1 e2 : Expr} {st s1 s2 : SE} {pos : Pos} (ht : PE (X.suite a ((a, oe) :: pn)) t (tSE C a cls d ei st)) (h1 : PE (X.suite a ((a, oe) :: pn)) e1 (tSE C a cls d ei s1)) (h2 : PE (X.suite a ((a, oe) :: pn)) e2 (tSE C a cls d ei s2))
    (he : ∀ whole, isTrue t X.env whole = (do let v ← whole; standAt t.pos; holding [v] (truthy v))) : PE (X.suite a ((a, oe) :: pn)) (.IfExp t e1 e2 pos) (tSE C a cls d ei (.ife st s1 s2)) := by
  refine PE.mono (pe_ifExp (pt_val ht he) h1 h2) fun σ H Q ⟨c, p, Z, G, w, ec, hr, ea, hei, ev, h⟩ => ?_
  simp only [evSE] at ev
  cases et : evSE C.D.L c p st with
  | none => rw [et] at ev; cases ev
  | some u =>
    rw [et] at ev
    cases u with
    | bl b =>
      refine ⟨c, p, Z, G, .bl b, ec, hr, ea, hei, et, fun v rv => ?_⟩
      cases rv
      cases b with
      | true => exact ⟨true, rfl, by dsimp only; rw [if_pos rfl]; exact ⟨c, p, Z, G, w, ec, hr, ea, hei, ev, h⟩⟩
      | false => exact ⟨false, rfl, by dsimp only; rw [if_neg Bool.false_ne_true]; exact ⟨c, p, Z, G, w, ec, hr, ea, hei, ev, h⟩⟩
    | _ => cases ev
end
/-! ### an error class without __init__ -/
theorem s_raise0 {c : Nat} {x : Str} {p cpos pos : Pos} (xf : XF C k X Wx) (hx : C.D.xn[c]? = some x) (hne : C.xf c = "") (hg : Gl X x) (hdb : (x == ("__debug__" : Str)) = false) :
    PS X (.Raise (some (.Call (.Name x p) [] [] cpos)) none pos) (tSt C Wx fun ρ G => .ex c none ρ G) := by
  obtain ⟨q, kC, sb, ty⟩ := xf.exb c x hx hne
  obtain ⟨hm, _, _⟩ := xf.ext.exc c x hx
  have mk : PMk X (.Call (.Name x p) [] [] cpos) (fun σ H Q => Q (.ref (C.xa c)) none H) := by
    intro pins s σ H Q I h
    refine wpAny_Call_Name_kw (ld_glob I hg hm ?_ hdb)
    refine PySem.W.callWith_K0 I.kIn kC ?_
    obtain ⟨bm, N, nm, qn, bs, hdct, sn, sub, ab, col, dd, k0, k1, k2, k3, k5, mN, hC, hN, hni, T⟩ := exc_obj I.kIn q
    refine wpAny_call_exc_subT PySem.F.excBase_ValueError T hC hN hni (fun h' e hm => ?_) (by show 0 ≤ sizeLine; exact Nat.zero_le _)
    exact mk_of I hm (raises_own sb ty) h (I.hok.gone hm.new)
  refine PS.mono (ps_raise xf.calm xf.tk mk) fun D σ H ⟨ρ, Z, G, st, hr, h⟩ => ?_
  exact h Z H σ none (Ext.refl hr) st rfl
end
/-! ### except clauses, with a name and without, in a row -/
abbrev Clz := List (Value × Option Nat × (Addr → Value → Option Addr → TS))
def endN (D : Ends) : Option Nat → Ends
  | none => D
  | some i => { nx := fun σ' H' => D.nx (σ'.set i none) H', rt := D.rt, bk := fun σ' H' => D.bk (σ'.set i none) H', ct := fun σ' H' => D.ct (σ'.set i none) H' }
def slotN (σ : L2.St) (a : Addr) : Option Nat → L2.St
  | none => σ
  | some i => σ.set i (some (.ref a))
def wMix (K : PySem.W.Frag) (Wout : WX) (D : Ends) : Clz → WX
  | [] => Wout
  | (c, n, ts) :: r => fun cls d σ H => ∃ b, PySem.W.exmOne K cls c = some b ∧ (b = true → ∀ a, H a = none → ts a cls d (endN D n) (slotN σ a n) H) ∧ (b = false → wMix K Wout D r cls d σ H)
def nameOk (X : Cx) (nm : Option Str) (n : Option Nat) : Prop := match nm, n with
  | none, none => True
  | some y, some i => X.N[i]? = some y ∧ X.env.kindOf y = some .local
  | _, _ => False
inductive Clauses (X : Cx) : List ExceptHandler → Clz → Prop
  | nil : Clauses X [] []
  | cons {x : Str} {c : Value} {nm : Option Str} {n : Option Nat} {ts : Addr → Value → Option Addr → TS} {b₀ : Stmt} {suite : List Stmt} {np pos' : Pos} {hds : List ExceptHandler} {l : Clz} (hc : Names X x c)
      (hn : nameOk X nm n)
      (hsu : ∀ (a : Addr) (oe : Obj) (cls : Value) (d : Option Addr) (pn : List (Addr × Obj)), Zc cls d oe → (∃ vs, oe.data = .fields vs) → PSs (X.suite a ((a, oe) :: pn)) (b₀ :: suite) (ts a cls d)) (r : Clauses X hds l) :
      Clauses X (.ExceptHandler (some (.Name x np)) nm (b₀ :: suite) pos' :: hds) ((c, n, ts) :: l)
section
variable {X : Cx} {body : List Stmt} {h₀ : ExceptHandler} {hds : List ExceptHandler} {l : Clz} {pos : Pos} {tb : WX → TS} {Wout : WX}
theorem try_mix (hs : X.stack = X.env :: X.outer) (hf : X.env.frame = some X.env.locals) (hND : X.N.Nodup) (tk : Takes X Wout)
    (hb : ∀ (W : WX) (pn : List (Addr × Obj)) (xe : Value → Shared → Prop), Takes (X.tr pn xe) W → PassesOwn (model X.prog X.w) X.A X.env xe → PSs (X.tr pn xe) body (tb W))
    (hh : Clauses X (h₀ :: hds) l) : PS X (.Try body (h₀ :: hds) [] [] pos) (fun D σ H => tb (wMix X.K Wout D l) D σ H) := by
  refine ⟨fun pins s σ H D I h => ?_⟩
  have okX := I.ok
  have hframes : X.A.frames = some (X.env :: X.outer) := by rw [okX.frames, hs]
  refine wpAny_Try_except (wpAny_mono ((hb (wMix X.K Wout D l) (X.pn ++ pins) (fun e t₁ => wpAny (model X.prog X.w) X.A (noteFrame e X.env) (fun _ t₂ => wpAny (model X.prog X.w) X.A (setFlight e none) (fun _ t₃ =>
    wpAny (model X.prog X.w) X.A (handleBy e X.env (h₀ :: hds)) (SP X pins D) X.xe t₃) X.xe t₂) X.xe t₁) (fun u t xx => ?_) PassesOwn.looking).run [] s σ H D (I.toTry _) h) (fun f t1 hsp => ?_) (fun e t1 he => he))
  · obtain ⟨a, B, sJ, pinsJ, σJ, HJ, cls, d, rfl, Jt, newB, upB, skyB, naB, osB, agB, wB⟩ := xx
    have Jn : Inv X pins σJ HJ sJ := Jt.ofTry okX
    have skyN : Sky B (X.env :: X.outer) a (Zc cls d) X.env.locals t.heap := by rw [← hs]; exact skyB
    show wpAny (model X.prog X.w) X.A (noteFrame (.ref a) X.env) _ _ _
    refine Sky.land Zc.steady hframes hf skyN fun hA flA upA => ?_
    have JA : Inv X pins σJ HJ { t with heap := hA } := Jn.landed newB flA.1 (upB.trans upA) osB agB
    obtain ⟨oeA, vsA, heA, hzA, hdA⟩ := flA.there
    have notAFrame : ∀ {g : Heap} {o : Obj} {vs : Array Value}, g.FunFrames B (X.env :: X.outer) → g.get? a = some o → o.data = .fields vs → a ∉ frs (X.env :: X.outer) := fun {g o vs} ff ge gd hm => by
      obtain ⟨_, o', ge', hnf⟩ := ff.mem hm
      rw [ge] at ge'
      cases ge'
      exact hnf _ gd
    have notIn := notAFrame flA.2.2.1 heA hdA
    have neL : a ≠ X.env.locals := fun z => notIn (List.mem_filterMap.mpr ⟨X.env, List.mem_cons_self, by rw [hf, z]⟩)
    have neF : a ∉ X.fs := fun hm => by
      obtain ⟨en, hen, q⟩ := List.mem_filterMap.mp hm
      exact notIn (List.mem_filterMap.mpr ⟨en, List.mem_cons_of_mem _ hen, q⟩)
    have SA := JA.suite heA hdA naB neL neF
    have go : ∀ {hs2 : List ExceptHandler} {l2 : Clz}, Clauses X hs2 l2 → wMix X.K Wout D l2 cls d σJ HJ → wpAny (model X.prog X.w) X.A (handleBy (.ref a) X.env hs2) (SP X pins D) X.xe { t with heap := hA } := by
      intro hs2 l2 hk
      induction hk with
      | nil =>
        intro ww
        refine wpAny_handleBy_nil ?_
        obtain ⟨k1, k2, k3, oe, vs, T, oT, ts', he, hz, hd, h1, hr⟩ := id flA
        unfold PySem.passOn
        refine wpAny_bind (wpAny_field he hd h1 ?_)
        rw [if_neg (show ¬ ((Value.ref T == Value.none) = true) from by simp)]
        have lastly : wpAny (model X.prog X.w) X.A (setFlight (.ref a) X.env.frame) (fun _ t4 => wpAny (model X.prog X.w) X.A (throw (.ref a) : Sem Flow) (SP X pins D) X.xe t4) X.xe { t with heap := hA } := by
          rw [hf]
          refine HandSPX.setFlight_upZ flA fun hB hhB upB2 => wpAny_throw (tk _ _ ?_)
          exact ⟨a, B, sJ, pins, σJ, HJ, cls, d, rfl, Jn, newB, (upB.trans upA).trans upB2, .inr (.inr (by rw [hs]; exact hhB)), naB, osB, agB, ww⟩
        first
          | exact wpAny_bind (wpAny_pure (wpAny_bind lastly))
          | exact wpAny_bind lastly
      | @cons x c nm n ts b₀ suite np pos' hds2 l3 hc hn hsu r ih =>
        intro ww
        obtain ⟨b, hb1, hyes, hno⟩ := ww
        have LT : PySem.W.Looks (model X.prog X.w) hA (typeOf (.ref a)) cls := fun A Q E s k q => wpAny_typeOf_ref (k _ _ heA) (by rw [hzA.1]; exact q)
        have LM := PySem.W.exm_one (M := model X.prog X.w) (JA.kIn) LT hb1
        have asked : ∀ {Q : Value → Shared → Prop} {E : Value → Shared → Prop}, Q c { t with heap := hA } → wpAny (model X.prog X.w) (X.A.mark (some (.ref a))) (eval (.Name x np) X.env) Q E { t with heap := hA } := fun {Q E} q => by
          obtain ⟨hg, hdbg, hm | ⟨hm, hv, hnn⟩⟩ := hc
          · exact ld_glob (X := X.suite a ((a, oeA) :: (X.pn ++ pins))) SA hg hm q hdbg
          · exact ld_blt (X := X.suite a ((a, oeA) :: (X.pn ++ pins))) SA hg hm hv q hnn hdbg
        refine wpAny_handleBy_cons (codeAny_handlers_test (asked (LM.here ?_))) (by intro q; cases q)
        cases b with
        | false =>
          show wpAny _ X.A (handleBy (.ref a) X.env hds2) _ _ _
          exact ih (hno rfl)
        | true =>
          have hy := hyes rfl a naB
          cases nm with
          | none =>
            cases n with
            | some i => exact hn.elim
            | none =>
              refine codeAny_handlers_suite (HandSPX.lands_againZ flA fun hB flB upB2 => ?_)
              have JB : Inv X pins σJ HJ { t with heap := hB } := Jn.landed newB flB.1 ((upB.trans upA).trans upB2) osB agB
              obtain ⟨oeB, vsB, heB, hzB, hdB⟩ := flB.there
              have SB := JB.suite heB hdB naB neL neF
              refine wpAny_mono ((hsu a oeB cls d (X.pn ++ pins) hzB ⟨_, hdB⟩).run [] _ _ HJ _ SB hy) (fun f t6 hsp => ?_) (fun _ _ z => False.elim z)
              cases f with
              | next => obtain ⟨σ6, H6, S6, q6⟩ := hsp; exact ⟨_, _, S6.unsuite okX, q6⟩
              | brk => obtain ⟨σ6, H6, S6, q6⟩ := hsp; exact ⟨_, _, S6.unsuite okX, q6⟩
              | cont => obtain ⟨σ6, H6, S6, q6⟩ := hsp; exact ⟨_, _, S6.unsuite okX, q6⟩
              | ret u => obtain ⟨v6, σ6, H6, S6, r6, q6⟩ := hsp; exact ⟨_, _, _, S6.unsuite okX, r6, q6⟩
          | some y =>
            cases n with
            | none => exact hn.elim
            | some i =>
              obtain ⟨hi, hloc⟩ := hn
              refine codeAny_handlers_suite_as (HandSPX.lands_againZ flA fun hB flB upB2 => ?_)
              have JB : Inv X pins σJ HJ { t with heap := hB } := Jn.landed newB flB.1 ((upB.trans upA).trans upB2) osB agB
              obtain ⟨oeB, vsB, heB, hzB, hdB⟩ := flB.there
              have SB := JB.suite heB hdB naB neL neF
              refine store_ok (X := X.suite a ((a, oeB) :: (X.pn ++ pins))) (v := .ref a) SB hND hi (.inl hloc) rfl (fun t5 S5 => ?_) (.inr hloc)
              refine wpAny_mono ((hsu a oeB cls d (X.pn ++ pins) hzB ⟨_, hdB⟩).run [] t5 _ HJ _ S5 hy) (fun f t6 hsp => ?_) (fun _ _ z => False.elim z)
              have leave : ∀ {σ6 : L2.St} {H6 : Hp} {Q : Shared → Prop}, Inv (X.suite a ((a, oeB) :: (X.pn ++ pins))) [] σ6 H6 t6 → (∀ t7, Inv X pins (σ6.set i none) H6 t7 → Q t7) →
                  wpAny (model X.prog X.w) X.A (do bindName X.env y .none; unbindBehindTheSuite X.env y pos') (fun _ t7 => Q t7) X.xe t6 := fun {σ6 H6 Q} S6 hq => gone_ok (S6.unsuite okX) hND hi hloc hq
              cases f with
              | next => obtain ⟨σ6, H6, S6, q6⟩ := hsp; exact leave S6 fun t7 J7 => ⟨_, _, J7, q6⟩
              | brk => obtain ⟨σ6, H6, S6, q6⟩ := hsp; exact leave S6 fun t7 J7 => ⟨_, _, J7, q6⟩
              | cont => obtain ⟨σ6, H6, S6, q6⟩ := hsp; exact leave S6 fun t7 J7 => ⟨_, _, J7, q6⟩
              | ret u => obtain ⟨v6, σ6, H6, S6, r6, q6⟩ := hsp; exact leave S6 fun t7 J7 => ⟨_, _, _, J7, r6, q6⟩
    exact go hh wB
  · cases f with
    | next => obtain ⟨σ', H', J', q⟩ := hsp; exact wpAny_execs_nil ⟨σ', H', J'.ofTry okX, q⟩
    | brk => obtain ⟨σ', H', J', q⟩ := hsp; exact ⟨σ', H', J'.ofTry okX, q⟩
    | cont => obtain ⟨σ', H', J', q⟩ := hsp; exact ⟨σ', H', J'.ofTry okX, q⟩
    | ret u => obtain ⟨v, σ', H', J', r, q⟩ := hsp; exact ⟨v, σ', H', J'.ofTry okX, r, q⟩
end
end PI
end

section
set_option autoImplicit false
set_option maxHeartbeats 1000000
/-! PI13b: a lambda that captures nothing is made. -/
namespace PI
open PySem L2
section
variable {C : Cn} {Wx : WX} {X : Cx}
theorem upd_swap {H : Hp} {a b : Addr} {o u : HO} (h : a ≠ b) : upd (upd H a o) b u = upd (upd H b u) a o := by
  funext x
  unfold upd
  by_cases h1 : x = b
  · rw [if_pos h1, if_neg (fun z => h (z.symm.trans h1)), if_pos h1]
  · rw [if_neg h1]
    by_cases h2 : x = a
    · rw [if_pos h2, if_pos h2]
    · rw [if_neg h2, if_neg h2, if_neg h1]
theorem clo_none {cells : List (Str × Addr)} : ∀ {names : List (Str × NameKind)} {acc : List (Str × Addr)}, (∀ y ∈ names, y.2 ≠ .free) → cloFrom cells names acc = acc
  | [], _, _ => rfl
  | (n, k) :: r, acc, h => by
    have hk : (k == NameKind.free) = false := by
      have := h (n, k) (by simp)
      simpa using this
    show (if k == .free then _ else cloFrom cells r acc) = acc
    rw [hk]
    exact clo_none fun y hy => h y (by simp [hy])
/-- a table's object grown, the code object new -/
theorem Ext.tab {Z : Wit} {G : Hh} {H : Hp} {t m : Nat} {c : Addr} {ps more : Array Value} (hr : HRep C Z G H) (hG : G[t]? = some (.tab m)) (hP : H (Z.α t) = some (.tbl ps)) (hc : H c = none)
    (ht : TriplesOk (ps ++ more).toList) (ha : ∀ (pos : Pos) (cv : Value), codeAmong pos (ps ++ more).toList = some cv → cv = .ref c ∨ ∃ c0, cv = .ref c0 ∧ H c0 = some (LamX.CodeO c0 (C.tq m))) :
    Ext C Z G H Z G (upd (upd H (Z.α t) (.tbl (ps ++ more))) c (LamX.CodeO c (C.tq m))) := by
  have ne : Z.α t ≠ c := ne_of_none hP hc
  have x1 : Ext C Z G H Z G (upd H c (LamX.CodeO c (C.tq m))) := Ext.grow hr (same_new hc)
  obtain ⟨q0, _, q4⟩ := hr.cells t _ hG
  have x2 := Ext.put (o := .tbl (ps ++ more)) (d := .tab m) x1.hr hG (by simp) (by simp) ⟨q0, ⟨_, upd_same, ht, fun pos cv hcv => by
    rcases ha pos cv hcv with e | ⟨c0, e1, e2⟩
    · exact ⟨c, e, by rw [upd_ne ne.symm, upd_same]⟩
    · have n1 : c0 ≠ c := ne_of_none e2 hc
      have n2 : c0 ≠ Z.α t := fun z => by
        rw [z, hP] at e2
        cases e2
      exact ⟨c0, e1, by rw [upd_ne n2, upd_ne n1]; exact e2⟩⟩, q4⟩
  have e : G.set t (.tab m) = G := by
    refine List.ext_getElem? fun i => ?_
    by_cases h : t = i
    · subst h
      rw [List.getElem?_set_self (List.getElem?_eq_some_iff.mp hG).1, hG]
    · rw [List.getElem?_set_ne h]
  rw [e] at x2
  rw [upd_swap ne]
  exact x1.trans x2
theorem s_lam {i t m : Nat} {c : Addr} {params : Arguments} {body : Expr} {scope : Scope} {pos : Pos} (hcode : X.env.code = .ref c) (TB : LamX.TabB X.base X.mg c (C.tp m)) (hq : X.env.qual ++ "<lambda>" = C.tq m)
    (hlk : lamB C.D i = true ∧ C.lk i params body scope) (hdef : defaultsOf params X.env = ([], [])) (hfree : ∀ y ∈ scope.names, y.2 ≠ .free) :
    PE X (.Lambda params body scope pos) (tE C Wx fun _ G => match G[t]? with
      | some (.tab m') => if m' = m then .ok (.lam i) G else .bad
      | _ => .bad) := by
  refine ⟨fun pins s σ H Q I ⟨ρ, Z, G, st, hr, h⟩ => ?_⟩
  cases hG : G[t]? with
  | none => simp only [hG] at h; exact h.elim
  | some d =>
    cases d with
    | tab m' =>
      simp only [hG] at h
      obtain ⟨hm, hk⟩ := okG.if_inv h
      subst hm
      obtain ⟨hp, ⟨ps, hP, ht, ha⟩, hS⟩ := hr.cells t _ hG
      have hfr : ∀ y ∈ scope.names, y.2 = .free → ∃ c, X.env.cells.lookup y.1 = some c := fun y hy e => absurd e (hfree y hy)
      have bP : s.heap.BuiltinsAt X.mg (Z.α t) := by rw [hp]; exact TB.bm.keeps I.bk
      have cdP : PySem.W.CodeHd s.heap c (Z.α t) := by rw [hp]; exact TB.code.keeps I.bk
      have gP : mainGlobals ≠ Z.α t := by rw [hp]; exact TB.gP
      have hP' : s.heap.get? (Z.α t) = some { cls := .none, data := .fields ps } := I.hok _ _ hP
      have clo := closure_ok (env := X.env) hfr
      rw [clo_none hfree] at clo
      -- the object of the lambda, in whatever heap
      have fin : ∀ {H1 : Hp} {h' : Heap} {tk : Nat} {c' : Addr} {pm ctv : Value}, Inv X pins σ H1 { s with heap := h', toks := tk } → Ext C Z G H Z G H1 → H1 c' = some (LamX.CodeO c' (C.tq m')) →
          EP X pins σ Q (.ref h'.objs.size) { s with heap := h'.push (PySem.W.kla_obj "<lambda>" (C.tq m') params body scope [] pm c' ctv), toks := tk } := by
        intro H1 h' tk c' pm ctv I1 x1 hc1
        have fresh : H1 h'.objs.size = none := I1.hok.fresh (Nat.le_refl _)
        have ok : ObjOk X.prog X.w (upd H1 h'.objs.size (LamO (C.tq m') params body scope h'.objs.size c')) (h'.push (PySem.W.kla_obj "<lambda>" (C.tq m') params body scope [] pm c' ctv)) h'.objs.size (LamO (C.tq m') params body scope h'.objs.size c') :=
          ⟨⟨pm, ctv, Heap.get?_push_size _ rfl⟩, ⟨_, Heap.get?_push_size _ rfl⟩, fun h1 h2 ⟨a, b, e⟩ keep => ⟨a, b, keep _ e⟩⟩
        have I2 := I1.laid (t' := tk) (fun b u e => Heap.get?_push_of_some _ e) (Nat.le_refl _) ok
        have x2 : Ext C Z G H1 Z G (upd H1 h'.objs.size (LamO (C.tq m') params body scope h'.objs.size c')) := Ext.grow x1.hr (same_new fresh)
        refine ⟨.ref h'.objs.size, _, I2, rfl, hk Z _ _ (x1.trans x2) (.lam hlk upd_same ((upd_ne (ne_of_none hc1 fresh)).trans hc1))⟩
      refine PySem.W.kla_eval hdef ?_
      rw [hq]
      cases hc : codeAmong pos ps.toList with
      | none =>
        refine PySem.W.kla_makeFunction (mg := X.mg) (c := c) (P := Z.α t) (ps := ps) clo I.ok.glob (I.mod.glob.keeps I.bk) hcode cdP hP' ht hc gP bP fun c' ctv h' tk hx hge hlt hrec htb => ?_
        obtain ⟨c2, oc, vs, tt, e2, hoc, hd, hv⟩ := hrec
        cases e2
        have nC : H c' = none := I.hok.fresh hge
        have I1 := LamX.inv_table (t' := tk) (more := #[rawInt pos.line, rawInt pos.col, .ref c']) I hP (fun b o hb e => hx b o hb e) htb hge ⟨oc, vs, tt, hoc, hd, hv⟩
        have eL : (ps ++ #[rawInt pos.line, rawInt pos.col, .ref c']).toList = ps.toList ++ [rawInt pos.line, rawInt pos.col, .ref c'] := by simp
        refine fin I1 (Ext.tab hr hG hP nC (by rw [eL]; exact PySem.TriplesOk_snoc _ _ _ _ ht) fun p' cv hcv => ?_) upd_same
        rw [eL] at hcv
        rcases LamX.among_app _ ht hcv with z | z
        · exact .inr (ha p' cv z)
        · exact .inl z
      | some cv =>
        obtain ⟨c', e, hco⟩ := ha pos cv hc
        subst e
        refine PySem.W.kla_makeFunctionHit (mg := X.mg) (c := c) (P := Z.α t) (ps := ps) clo I.ok.glob (I.mod.glob.keeps I.bk) hcode cdP hP' ht hc bP fun ctv h' tk hx hsz => ?_
        exact fin (I.kept hx) (Ext.refl hr) hco
    | _ => simp only [hG] at h; exact h.elim
end
end PI
end

section
set_option autoImplicit false
/-! PI14: does a text read so? A question with a yes or a no. -/
namespace PI
open PySem L2
/-- the names about -/
structure ScB where
  N : List Str
  sc : Scope
  fn : Str → Bool
  me : Option Nat := none
abbrev LcT := Nat → Arguments → Expr → Scope → Bool
/-- no parameter has a value of its own -/
def noDfl (p : Arguments) : Bool := p.defaults.isEmpty && p.kw_defaults.isEmpty
def ScB.blk (S : ScB) (scope : Scope) : ScB := ⟨S.N, relS scope S.sc, fun x => scope.names.lookup x == some .cell, none⟩
def visB (sc : Scope) (x : Str) : Bool := match sc.names.lookup x with
  | some .local => true
  | some .cell => true
  | some .free => true
  | _ => false
def locB (S : ScB) (x : Str) : Bool := match S.sc.names.lookup x with
  | some .local => true
  | some .cell => S.fn x
  | _ => false
def isL (sc : Scope) (x : Str) : Bool := match sc.names.lookup x with
  | some .local => true
  | _ => false
def glB (sc : Scope) (x : Str) : Bool := match sc.names.lookup x with
  | some .globalImplicit => true
  | _ => false
def ndB (x : Str) : Bool := !(x == ("__debug__" : Str))
def plainN (x : Str) : Bool := ndB x && !(x == ("__classdict__" : Str))
def varB (S : ScB) (i : Nat) (x : Str) : Bool := decide (S.N[i]? = some x) && visB S.sc x && plainN x
def stoB (S : ScB) (i : Nat) (x : Str) : Bool := decide (S.N[i]? = some x) && locB S x
def glN (S : ScB) (x : Str) : Bool := glB S.sc x && ndB x
def notSl : Expr → Bool
  | .Slice _ _ _ _ => false
  | _ => true
def plainV : Expr → Bool
  | .UnaryOp .Not _ _ => false
  | .BoolOp _ _ _ => false
  | .IfExp _ _ _ _ => false
  | .Compare _ _ _ _ => false
  | _ => true
def notCall : Expr → Bool
  | .Call _ _ _ _ => false
  | _ => true
def notCpr : Expr → Bool
  | .ListComp _ _ _ _ => false
  | .SetComp _ _ _ _ => false
  | .DictComp _ _ _ _ _ => false
  | _ => true
def notSet : Expr → Bool
  | .Set _ _ _ => false
  | _ => true
def notTup : Expr → Bool
  | .Tuple _ _ _ => false
  | _ => true
def bopB : BOp → Operator → Bool
  | .add, .Add => true
  | .sub, .Sub => true
  | .mul, .Mult => true
  | .fdiv, .FloorDiv => true
  | .mod, .Mod => true
  | .pow, .Pow => true
  | _, _ => false
def copB : COp → CmpOp → Bool
  | .eq, .Eq => true
  | .ne, .NotEq => true
  | .lt, .Lt => true
  | .le, .LtE => true
  | .gt, .Gt => true
  | .ge, .GtE => true
  | .isIn, .In => true
  | .notIn, .NotIn => true
  | .isN, .Is => true
  | .notN, .IsNot => true
  | _, _ => false
def biN : Bi → Str
  | .len => "len"
  | .sum => "sum"
  | .any => "any"
  | .all => "all"
  | .max2 => "max"
  | .min2 => "min"
  | .min1 => "min"
  | .abs => "abs"
  | .int => "int"
  | .tuple => "tuple"
  | .list => "list"
  | .divmod => "divmod"
  | .repr => "repr"
  | .listD => "list"
  | .sorted => "sorted"
def ownP (S : ScB) (own : List Nat) : List (Str × Nat) := own.map fun i => ((S.N[i]?).getD "", i)
/-- the def i may be called so -/
def fnB (D : Dat) (i : Nat) (ds : List W) : Bool := (D.fs[i]?).isSome && !lamB D i && (match D.dfs[i]? with
  | some dfs => dfs.any fun x => W.beqs x ds
  | none => false)
def flB (D : Dat) (c j : Nat) (f : Str) : Bool := (D.cn[c]?).isSome && decide (((D.fl[c]?).getD [])[j]? = some f)
def tgB : Tg → ScB → Expr → Bool
  | .nm i, S, e => match e with
    | .Name x _ => stoB S i x
    | _ => false
  | .tp is, S, e => match e with
    | .Tuple es _ _ => go is S es
    | _ => false
where go : List Nat → ScB → List Expr → Bool
  | [], _, [] => true
  | i :: is, S, e :: es => (match e with
    | .Name x _ => stoB S i x
    | _ => false) && go is S es
  | _, _, _ => false
section
variable (lc : LcT) (D : Dat)
mutual
def chkE (ie : IE) (S : ScB) (e : Expr) : Bool := match ie with
  | .never => true
  | .non => match e with
    | .Constant .none _ _ => true
    | _ => false
  | .bl b => match e with
    | .Constant (.bool c) _ _ => b == c
    | _ => false
  | .int i => match e with
    | .Constant (.int j) _ _ => i == j
    | _ => false
  | .str x => match e with
    | .Constant (.str y) _ _ => decide (x = y)
    | _ => false
  | .v i => match e with
    | .Name x _ => varB S i x
    | _ => false
  | .g k => match e with
    | .Name x _ => decide (D.gv[k]? = some x) && glN S x
    | _ => false
  | .f i => match e with
    | .Name x _ => decide (D.gn[i]? = some x) && !decide (x = "") && glN S x && plainFB D i
    | _ => false
  | .op o a b => match e with
    | .BinOp x q y _ => bopB o q && chkE a S x && chkE b S y
    | _ => false
  | .neg a => match e with
    | .UnaryOp .USub x _ => chkE a S x
    | _ => false
  | .cmp o a b => match e with
    | .Compare x [q] [y] _ => copB o q && !behindInMarks q y && chkE a S x && chkE b S y
    | _ => false
  | .chain o o' a b c => match e with
    | .Compare x [q, q'] [y, z] _ => copB o q && copB o' q' && !behindInMarks q' z && chkE a S x && chkE b S y && chkE c S z
    | _ => false
  | .andV a b => match e with
    | .BoolOp .And (x :: y :: r) p => chkE a S x && (match r with
      | [] => chkE b S y
      | z :: r => chkE b S (.BoolOp .And (y :: z :: r) p))
    | _ => false
  | .orV a b => match e with
    | .BoolOp .Or (x :: y :: r) p => chkE a S x && (match r with
      | [] => chkE b S y
      | z :: r => chkE b S (.BoolOp .Or (y :: z :: r) p))
    | _ => false
  | .notV a => match e with
    | .UnaryOp .Not x _ => chkE a S x
    | _ => false
  | .ife t a b => match e with
    | .IfExp c x y _ => chkT t S c && chkE a S x && chkE b S y
    | _ => false
  | .tup es => match e with
    | .Tuple xs _ _ => chkEs es S xs
    | _ => false
  | .lst _ es => match e with
    | .List xs _ => chkEs es S xs
    | _ => false
  | .ix a i => match e with
    | .Subscript x y _ => notSl y && chkE a S x && chkE i S y
    | _ => false
  | .sl a lo hi => match e with
    | .Subscript x (.Slice l h none _) _ => chkE a S x && chkO lo S l && chkO hi S h
    | _ => false
  | .call i es ds => match e with
    | .Call (.Name x _) xs [] _ => decide (D.gn[i]? = some x) && !decide (x = "") && glN S x && fnB D i ds && noStar xs && chkEs es S xs
    | _ => false
  | .callV i es => match e with
    | .Call (.Name x _) (y :: ys) [] _ => varB S i x && noStar (y :: ys) && chkEs es S (y :: ys)
    | _ => false
  | .callK i es ks pm => match es, e with
    | .nil, .Call (.Name x _) [] kws _ => decide (D.gn[i]? = some x) && !decide (x = "") && glN S x && (D.fs[i]?).isSome && !lamB D i && kwB ((D.pn[i]?).getD []) 0 (kwNames kws) pm && kws.all (·.arg.isSome) && chkKs ks S kws
    | _, _ => false
  | .bi b es => match e with
    | .Call (.Name x _) (y :: ys) [] _ => decide (x = biN b) && D.bs.contains x && glN S x && noStar (y :: ys) && chkEs es S (y :: ys)
    | _ => false
  | .lc own tg it t el => match e with
    | .ListComp elt [⟨tge, iter, ifs, k⟩] scope _ => k == 0 && blkC S.N S.sc scope (ownP S own) && (tgIx tg).all (fun i => own.contains i) && notSet iter && tgB tg (S.blk scope) tge && chkI it S tge iter && (match ifs with
      | [] => isYes t
      | [c] => chkT t (S.blk scope) c
      | _ => false) && chkE el (S.blk scope) elt
    | _ => false
  | .fld a c j => match e with
    | .Attribute x f _ => notCall x && flB D c j f && chkE a S x
    | _ => false
  | .meth a m es => match e with
    | .Call (.Attribute o mn apos) xs [] pos => notCall o && decide (D.mn[m]? = some mn) && (match D.L.ms[m]? with
      | some (_, i) => fnB D i []
      | none => false) && noStar xs && decide (xs.length < 30) && (apos.endLine == pos.line) && chkE a S o && chkEs es S xs
    | _ => false
  | .mk c => match e with
    | .Call (.Name x _) [] [] _ => decide (D.cn[c]? = some x) && glN S x && (match D.L.inits[c]? with
      | some (i, _) => fnB D i []
      | none => false)
    | _ => false
  | .isIns _ _ => false
  | .isT t a => match e with
    | .Call (.Name x _) [y, .Name z _] [] _ => decide (x = "isinstance") && D.bs.contains x && glN S x && decide (z = Str.ofString (tqS t)) && D.bs.contains z && glN S z && !isStar y && chkE a S y
    | _ => false
  | .inG a k => match e with
    | .Compare x [.In] [.Name y _] _ => decide (D.dn[k]? = some y) && glN S y && chkE a S x
    | _ => false
  | .ixG k a => match e with
    | .Subscript (.Name y _) x _ => decide (D.dn[k]? = some y) && glN S y && notSl x && chkE a S x
    | _ => false
  | .pop _ => false
  | .dct ks xs => match e with
    | .Dict es vs _ => dctB ks xs es vs && decide ks.Nodup && decide (ks.length ≤ 15)
    | _ => false
  | .lam i _ m => match e with
    | .Lambda ps body sc _ => decide (S.me = some m) && lamB D i && lc i ps body sc && noDfl ps && sc.names.all fun y => !decide (y.2 = .free)
    | _ => false
def chkEs (es : IEs) (S : ScB) (xs : List Expr) : Bool := match es with
  | .nil => match xs with
    | [] => true
    | _ => false
  | .cons e r => match xs with
    | x :: xs => !isStar x && chkE e S x && chkEs r S xs
    | _ => false
  | .star e r => match xs with
    | .Starred x _ :: xs => chkE e S x && chkEs r S xs
    | _ => false
def chkKs (es : IEs) (S : ScB) (xs : List Keyword) : Bool := match es with
  | .nil => match xs with
    | [] => true
    | _ => false
  | .cons e r => match xs with
    | ⟨_, x, _⟩ :: xs => chkE e S x && chkKs r S xs
    | _ => false
  | .star _ _ => false
def chkO (o : IO) (S : ScB) (x : Option Expr) : Bool := match o with
  | .no => match x with
    | none => true
    | _ => false
  | .yes e => match x with
    | some x => chkE e S x
    | _ => false
def chkT (t : IT) (S : ScB) (e : Expr) : Bool := match t with
  | .yes => false
  | .and a b => match e with
    | .BoolOp .And (x :: y :: r) p => chkT a S x && (match r with
      | [] => chkT b S y
      | z :: r => chkT b S (.BoolOp .And (y :: z :: r) p))
    | _ => false
  | .or a b => match e with
    | .BoolOp .Or (x :: y :: r) p => chkT a S x && (match r with
      | [] => chkT b S y
      | z :: r => chkT b S (.BoolOp .Or (y :: z :: r) p))
    | _ => false
  | .not a => match e with
    | .UnaryOp .Not x _ => chkT a S x
    | _ => false
  | .val a => (plainV e && chkE a S e) || (match a with
    | .cmp _ _ _ => chkE a S e
    | .chain _ _ _ _ _ => chkE a S e
    | _ => false)
  | .tru a => plainV e && chkE a S e
def chkI (it : II) (S : ScB) (tge e : Expr) : Bool := match it with
  | .seq a => notSet e && chkE a S e
  | .r1 a => match e with
    | .Call (.Name x _) [y] [] _ => decide (x = "range") && D.bs.contains x && glN S x && !isStar y && chkE a S y
    | _ => false
  | .r2 a b => match e with
    | .Call (.Name x _) [y, z] [] _ => decide (x = "range") && D.bs.contains x && glN S x && !isStar y && !isStar z && chkE a S y && chkE b S z
    | _ => false
  | .enum a => match e with
    | .Call (.Name x _) [y] [] _ => decide (x = "enumerate") && D.bs.contains x && glN S x && !isStar y && !notTup tge && chkE a S y
    | _ => false
def isYes (t : IT) : Bool := match t with
  | .yes => true
  | _ => false
end
/-- what an except suite returns -/
def chkX (se : SE) (n : Option (Nat × Str)) (S : ScB) (e : Expr) : Bool := match se with
  | .c w => match w, e with
    | .non, .Constant .none _ _ => true
    | .bl b, .Constant (.bool c) _ _ => b == c
    | .int b, .Constant (.int c) _ _ => b == c
    | .str b, .Constant (.str c) _ _ => decide (b = c)
    | _, _ => false
  | .fld d => match n, e with
    | some (i, n), .Attribute (.Name y _) f _ => decide (y = n) && varB S i n && (D.xn[d]?).isSome && decide ((D.xf[d]?).getD "" = f)
    | _, _ => false
  | .isx d => match n, e with
    | some (i, n), .Call (.Name z _) [.Name y _, .Name x _] [] _ => decide (y = n) && varB S i n && decide (D.xn[d]? = some x) && glN S x && decide (z = "isinstance") && D.bs.contains z && glN S z && decide (D.L.subs.length ≤ D.xn.length)
    | _, _ => false
  | .ife t a b => match e with
    | .IfExp c x y _ => plainV c && chkX t n S c && chkX a n S x && chkX b n S y
    | _ => false
  | _ => false
def slotOf (N : List Str) (y : Str) : Option Nat := (List.range N.length).find? fun i => decide (N[i]? = some y)
def chkHs (hs : List (Nat × SE)) (S : ScB) (l : List ExceptHandler) : Bool := match hs with
  | [] => match l with
    | [] => true
    | _ => false
  | (d, se) :: r => match l with
    | .ExceptHandler (some (.Name x _)) nm [.Return (some e) _] _ :: l => decide (D.xn[d]? = some x) && glN S x && (match nm with
      | none => chkX D se none S e
      | some y => match slotOf S.N y with
        | some i => decide (S.N[i]? = some y) && isL S.sc y && chkX D se (some (i, y)) S e
        | none => false) && chkHs r S l
    | _ => false
/-- name = [..], stored by the block itself -/
def swB (S : ScB) (v : Expr) (t : Str) (p : Pos) : Bool := match v with
  | .ListComp _ _ scope vp => isL S.sc t && p.line == vp.line && !(scope.names.any fun (n, k) => n == t && (k == .local || k == .cell))
  | _ => false
def parB (S : ScB) (x y : Str) (px py : Pos) (a b : Expr) : Bool := isL S.sc x && isL S.sc y && (px.line == py.line) && !decide (x = y) && !isStar a && !isStar b && !(foldedForSure 8 a && foldedForSure 8 b) && !(constantsAlone 8 a && constantsAlone 8 b)
def par3B (S : ScB) (x y z : Str) (px py pz : Pos) (a b c : Expr) : Bool := isL S.sc x && isL S.sc y && isL S.sc z && (py.line == px.line) && (pz.line == px.line) && !decide (x = y) && !decide (x = z) && !decide (y = z) && !isStar a && !isStar b && !isStar c && !(foldedForSure 8 a && (foldedForSure 8 b && foldedForSure 8 c)) && !(constantsAlone 8 a && (constantsAlone 8 b && constantsAlone 8 c))
mutual
def chkS (s : IS) (S : ScB) (st : Stmt) : Bool := match s with
  | .never => true
  | .asg i e => match st with
    | .Assign [.Name x p] v _ => stoB S i x && chkE lc D e S v && (notCpr v || (match e with
      | .lc _ _ _ _ _ => swB S v x p
      | _ => false))
    | _ => false
  | .unp tg e => match st with
    | .Assign [.Tuple ts _ _] v _ => notCpr v && notTup v && chkE lc D e S v && chkG tg S ts
    | _ => false
  | .par i j a b => match st with
    | .Assign [.Tuple [.Name x px, .Name y py] _ _] (.Tuple [v, w] _ _) _ => decide (S.N[i]? = some x) && decide (S.N[j]? = some y) && parB S x y px py v w && chkE lc D a S v && chkE lc D b S w
    | _ => false
  | .par3 i j l a b c => match st with
    | .Assign [.Tuple [.Name x px, .Name y py, .Name z pz] _ _] (.Tuple [u, v, w] _ _) _ => decide (S.N[i]? = some x) && decide (S.N[j]? = some y) && decide (S.N[l]? = some z) && par3B S x y z px py pz u v w && chkE lc D a S u && chkE lc D b S v && chkE lc D c S w
    | _ => false
  | .drop e => match st with
    | .Expr v _ => notCpr v && chkE lc D e S v
    | _ => false
  | .append a e => match st with
    | .Expr (.Call (.Attribute x m apos) [y] [] cpos) _ => decide (m = "append") && notCall x && !isStar y && (apos.endLine == cpos.line) && chkE lc D a S x && chkE lc D e S y
    | _ => false
  | .setL a i e => match st with
    | .Assign [.Subscript x y _] v _ => notCpr v && notSl y && chkE lc D a S x && chkE lc D i S y && chkE lc D e S v
    | _ => false
  | .setD a i e => match st with
    | .Assign [.Subscript x y _] v _ => notCpr v && notSl y && chkE lc D a S x && chkE lc D i S y && chkE lc D e S v
    | _ => false
  | .setF a c j e => match st with
    | .Assign [.Attribute x f _] v _ => notCpr v && flB D c j f && chkE lc D a S x && chkE lc D e S v
    | _ => false
  | .ret e => match st with
    | .Return (some v) _ => chkE lc D e S v
    | _ => false
  | .retN => match st with
    | .Return none _ => true
    | _ => false
  | .cond t a b => match st with
    | .If c x y _ => chkT lc D t S c && chkSs a S x && chkSs b S y
    | _ => false
  | .loop tg it b => match st with
    | .For tge iter body [] _ => notSet iter && tgB tg S tge && chkI lc D it S tge iter && chkSs b S body
    | _ => false
  | .wh t b => match st with
    | .While c body [] _ => chkT lc D t S c && chkSs b S body
    | _ => false
  | .pass => match st with
    | .Pass _ => true
    | .Expr (.Constant (.str _) _ _) _ => true
    | _ => false
  | .frz _ => false
  | .raise0 c => match st with
    | .Raise (some (.Call (.Name x _) [] [] _)) none _ => decide (D.xn[c]? = some x) && decide ((D.xf[c]?).getD "" = "") && glN S x
    | _ => false
  | .raise1 c e => match st with
    | .Raise (some (.Call (.Name x _) [y] [] _)) none _ => decide (D.xn[c]? = some x) && !decide ((D.xf[c]?).getD "" = "") && glN S x && !isStar y && chkE lc D e S y
    | _ => false
  | .tryx b hs => match st with
    | .Try body (h :: l) [] [] _ => chkSs b S body && chkHs D hs S (h :: l)
    | _ => false
def chkSs (ss : ISs) (S : ScB) (l : List Stmt) : Bool := match ss with
  | .nil => match l with
    | [] => true
    | _ => false
  | .cons s r => match l with
    | st :: l => chkS s S st && chkSs r S l
    | _ => false
def chkG (tg : IG) (S : ScB) (l : List Expr) : Bool := match tg with
  | .nil => match l with
    | [] => true
    | _ => false
  | .nm i r => match l with
    | .Name x _ :: l => stoB S i x && chkG r S l
    | _ => false
  | .sub a i r => match l with
    | .Subscript x y _ :: l => notSl y && chkE lc D a S x && chkE lc D i S y && chkG r S l
    | _ => false
end
end
end PI
end

section
set_option autoImplicit false
/-! PI15: what reads so, runs so: expressions. -/
namespace PI
open PySem L2
structure ScOk (C : Cn) (S : ScB) (X : Cx) : Prop where
  N : X.N = S.N
  sc : X.env.scope = S.sc
  fn : ∀ x, S.fn x = true → X.fn x = true
  me : ∀ m, S.me = some m → ∃ c, X.env.code = .ref c ∧ LamX.TabB X.base X.mg c (C.tp m) ∧ X.env.qual ++ "<lambda>" = C.tq m
section
variable {C : Cn} {Wx : WX} {X : Cx} {k : Nat} {S : ScB}
theorem ScOk.blk (h : ScOk C S X) (s : Shared) (H : Hp) (scope : Scope) (cl : List (Str × Addr)) (A : Addr) (fp : List Addr) : ScOk C (S.blk scope) (X.blk s H scope (compEnvC scope cl A X.env) fp) :=
  ⟨h.N, by show relS scope X.env.scope = relS scope S.sc; rw [h.sc], fun _ z => z, fun m z => by cases (show (none : Option Nat) = some m from z)⟩
theorem XF.blk (xf : XF C k X Wx) (s : Shared) (H : Hp) (scope : Scope) (cl : List (Str × Addr)) (A : Addr) (fp : List Addr) : XF C k (X.blk s H scope (compEnvC scope cl A X.env) fp) (fun _ _ _ _ => False) where
  K := xf.K
  nd := xf.nd
  calm := xf.calm
  room := xf.room
  grd := xf.grd
  tk := takes0
  fns := xf.fns
  lams := xf.lams
  txt := xf.txt
  ext := xf.ext
  exb := xf.exb
  exi := xf.exi
theorem visB_ok {x : Str} {sc : Scope} (h : visB sc x = true) : Vis sc x := by
  unfold visB at h
  split at h
  · exact .inl (by assumption)
  · exact .inr (.inl (by assumption))
  · exact .inr (.inr (by assumption))
  · cases h
theorem glB_ok {x : Str} (so : ScOk C S X) (h : glB S.sc x = true) : Gl X x := by
  unfold glB at h
  split at h
  · show X.env.scope.names.lookup x = some .globalImplicit
    rw [so.sc]
    assumption
  · cases h
theorem isL_ok {x : Str} (so : ScOk C S X) (h : isL S.sc x = true) : X.env.scope.names.lookup x = some .local := by
  unfold isL at h
  split at h
  · rw [so.sc]; assumption
  · cases h
theorem ndB_ok {x : Str} (h : ndB x = true) : (x == ("__debug__" : Str)) = false := by simpa [ndB] using h
theorem glN_ok {x : Str} (so : ScOk C S X) (h : glN S x = true) : Gl X x ∧ (x == ("__debug__" : Str)) = false := by
  rw [glN, Bool.and_eq_true] at h
  exact ⟨glB_ok so h.1, ndB_ok h.2⟩
theorem varB_ok {i : Nat} {x : Str} (so : ScOk C S X) (h : varB S i x = true) : X.N[i]? = some x ∧ Vis X.env.scope x ∧ (x == ("__debug__" : Str)) = false ∧ (x == ("__classdict__" : Str)) = false := by
  simp only [varB, plainN, Bool.and_eq_true, decide_eq_true_eq] at h
  obtain ⟨⟨h1, h2⟩, h3, h4⟩ := h
  exact ⟨by rw [so.N]; exact h1, by rw [so.sc]; exact visB_ok h2, ndB_ok h3, by simpa using h4⟩
theorem stoB_ok {i : Nat} {x : Str} (so : ScOk C S X) (h : stoB S i x = true) : X.N[i]? = some x ∧ Loc X.env.scope x ∧ (X.fn x = true ∨ X.env.scope.names.lookup x = some .local) := by
  simp only [stoB, Bool.and_eq_true, decide_eq_true_eq] at h
  obtain ⟨h1, h2⟩ := h
  refine ⟨by rw [so.N]; exact h1, ?_⟩
  rw [so.sc]
  unfold locB at h2
  split at h2
  · rename_i e; exact ⟨.inl e, .inr e⟩
  · rename_i e; exact ⟨.inr e, .inl (so.fn x h2)⟩
  · cases h2
theorem notSl_ix {b : Expr} (h : notSl b = true) : PlainIx b := by
  cases b <;> first | (intro o i; rfl) | cases h
theorem plainV_ok {e : Expr} (h : plainV e = true) : ∀ (env : Env) (whole : Sem Value), isTrue e env whole = (do let v ← whole; standAt e.pos; holding [v] (truthy v)) := by
  intro env whole
  cases e with
  | UnaryOp op x p => cases op <;> first | rfl | cases h
  | BoolOp _ _ _ => cases h
  | IfExp _ _ _ _ => cases h
  | Compare _ _ _ _ => cases h
  | _ => rfl
theorem notCall_ok {e : Expr} (h : notCall e = true) (f : Str) (env : Env) (w : Sem Value) : attributeBase e f env w = w := by
  cases e <;> first | rfl | cases h
theorem notCpr_ok {e : Expr} (h : notCpr e = true) (t : Option Expr) (l : Nat) (env : Env) : swapsWith e t l env = pure false := by
  cases e <;> first | rfl | cases h
theorem notSet_ok {e : Expr} (h : notSet e = true) (env : Env) (x : Value) : foldedSetIterable e env x = pure x := by
  cases e <;> first | rfl | cases h
theorem copB_ok {o : COp} {q : CmpOp} (h : copB o q = true) : q = cmpOf o := by
  cases o <;> cases q <;> first | rfl | cases h
theorem fnB_ok {i : Nat} {ds : List W} (h : fnB C.D i ds = true) : ∃ F dfs, C.D.fs[i]? = some F ∧ lamB C.D i = false ∧ C.D.dfs[i]? = some dfs ∧ ds ∈ dfs := by
  simp only [fnB, Bool.and_eq_true, Bool.not_eq_true'] at h
  obtain ⟨⟨h1, hL⟩, h2⟩ := h
  obtain ⟨F, hF⟩ := Option.isSome_iff_exists.mp h1
  split at h2
  · rename_i dfs hd
    obtain ⟨x, hx, he⟩ := List.any_eq_true.mp h2
    rw [W.beqs_eq _ _ he] at hx
    exact ⟨F, dfs, hF, hL, hd, hx⟩
  · cases h2
theorem flB_ok {c j : Nat} {f : Str} (h : flB C.D c j f = true) : ∃ x, C.D.cn[c]? = some x ∧ (C.fl c)[j]? = some f := by
  simp only [flB, Bool.and_eq_true, decide_eq_true_eq] at h
  obtain ⟨x, hx⟩ := Option.isSome_iff_exists.mp h.1
  exact ⟨x, hx, h.2⟩
theorem meth_eq {o : Expr} {m : Str} {xs : List Expr} {apos pos : Pos} {env : Env} (h1 : notCall o = true) (h2 : noStar xs = true) (h3 : xs.length < 30) (h4 : (apos.endLine == pos.line) = true) :
    eval (.Call (.Attribute o m apos) xs [] pos) env = (do
      let ov ← eval o env
      standAt apos.atName
      let (f, first) ← holding [ov] (getMethod ov m (do return (← importBound o env).getD true))
      callWith pos f first (backTo pos (starEach xs env)) (backToKw pos (keywordEach [] env))) := by
  have e0 : eval (.Call (.Attribute o m apos) xs [] pos) env = (do
      let ov ← attributeBase o m env (eval o env)
      standAt apos.atName
      methodCall o m apos pos env ov (xs.length + ([] : List Keyword).length) (backTo pos (starEach xs env)) (backToKw pos (keywordEach [] env))) := by first | rfl | (rw [eval.eq_def])
  have few : methodCallForm (xs.length + ([] : List Keyword).length) (backTo pos (starEach xs env)) (backToKw pos (keywordEach [] env)) = true := by
    have a1 : (backTo pos (starEach xs env)).all (fun x => !x.1) = true := by
      have := noStar_back (env := env) (pos := pos) h2
      rw [List.all_eq_not_any_not]
      simpa using this
    have a2 : decide (xs.length + 0 + 0 < 30) = true := by simpa using h3
    show ((backTo pos (starEach xs env)).all (fun x => !x.1) && true && decide (xs.length + 0 + 0 < 30)) = true
    rw [a1, a2]
    rfl
  have hp : methodCallPos true o env apos pos = pure pos := by
    unfold methodCallPos
    rw [h4]
    rfl
  rw [e0, notCall_ok h1]
  unfold methodCall
  rw [few, hp]
  rfl
end
end PI
end

section
set_option autoImplicit false
set_option maxHeartbeats 4000000
/-! PI16: soundness for expressions. -/
namespace PI
open PySem L2
section
variable {C : Cn} {k : Nat} {lc : LcT}
theorem snd_bi {Wx : WX} {X : Cx} {b : Bi} {x : Str} {y : Expr} {ys : List Expr} {p pos : Pos} {f : Rho → Hh → R (List W)} (xf : XF C k X Wx) (hx : x = biN b) (hm : X.mg x = none) (hg : Gl X x) (hdb : (x == ("__debug__" : Str)) = false) (hs : noStar (y :: ys) = true) (ha : PA X (y :: ys) (tA C Wx f)) :
    PE X (.Call (.Name x p) (y :: ys) [] pos) (tE C Wx fun ρ G => (f ρ G).bind fun xs G1 => ofO (evBi b xs G1) G1) := by
  subst hx
  have hu : X.A.units + 64 < cLine := xf.room.units
  have hu2 : X.A.units + 128 < cLine := by have := xf.room.un; omega
  cases b with
  | len => exact s_biB (ok_len X.K xf.K) call_len_seq hg hm (by decide +kernel) ha hs (by decide +kernel) hdb
  | sum => exact s_biB (ok_sum X.K xf.K) (cr_sum xf.calm) hg hm (by decide +kernel) ha hs (by decide +kernel) hdb
  | any => exact s_biB (ok_any X.K xf.K) (cr_any xf.calm) hg hm (by decide +kernel) ha hs (by decide +kernel) hdb
  | all => exact s_biB (ok_all X.K xf.K) (cr_all xf.calm) hg hm (by decide +kernel) ha hs (by decide +kernel) hdb
  | max2 => exact s_biB ok_max2 (call_max2 xf.calm) hg hm (by decide +kernel) ha hs (by decide +kernel) hdb
  | min2 => exact s_biB ok_min2 (call_min2 xf.calm) hg hm (by decide +kernel) ha hs (by decide +kernel) hdb
  | min1 => exact s_biB (ok_min1 X.K xf.K) (cr_minT xf.calm hu) hg hm (by decide +kernel) ha hs (by decide +kernel) hdb
  | abs => exact s_biB ok_abs call_abs hg hm (by decide +kernel) ha hs (by decide +kernel) hdb
  | int => exact s_biT ok_int call_int1 hg hm (by decide +kernel) ha hs (by decide +kernel) hdb
  | tuple => exact s_biT (ok_tuple X.K xf.K) call_tuple_of hg hm (by decide +kernel) ha hs (by decide +kernel) hdb
  | list => exact s_biT (ok_list X.K xf.K) call_list_of hg hm (by decide +kernel) ha hs (by decide +kernel) hdb
  | listD => exact s_biT ok_listD (call_listD xf.calm) hg hm (by decide +kernel) ha hs (by decide +kernel) hdb
  | sorted => exact s_biB (ok_sorted X.K xf.K) cr_sortedI hg hm (by decide +kernel) ha hs (by decide +kernel) hdb
  | divmod => exact s_biB ok_divmod call_divmod hg hm (by decide +kernel) ha hs (by decide +kernel) hdb
  | repr => exact s_biB ok_repr (cr_repr xf.K hu2 xf.grd) hg hm (by decide +kernel) ha hs (by decide +kernel) hdb
theorem snd_names {X : Cx} {S : ScB} (hN : X.N.Nodup) (so : ScOk C S X) : ∀ (is : List Nat) (es : List Expr), tgB.go is S es = true → PGs X es (gNames is) ∧ (assignEach es X.env).length = is.length ∧ (assignEach es X.env).findIdx? (·.1) = none := by
  intro is
  induction is with
  | nil =>
    intro es h
    cases es with
    | nil => exact ⟨pgs_nil, rfl, rfl⟩
    | cons _ _ => cases h
  | cons i is ih =>
    intro es h
    cases es with
    | nil => cases h
    | cons e es =>
      simp only [tgB.go, Bool.and_eq_true] at h
      cases e with
      | Name x p =>
        obtain ⟨h1, h2, h3⟩ := stoB_ok so h.1
        obtain ⟨i1, i2, i3⟩ := ih es h.2
        refine ⟨pgs_cons (pg_name hN h1 h2 h3) i1 rfl, ?_, ?_⟩
        · show (assignEach es X.env).length + 1 = is.length + 1
          rw [i2]
        · show List.findIdx? _ ((false, assign (.Name x p) X.env) :: assignEach es X.env) = none
          rw [List.findIdx?_cons]
          simp [i3]
      | _ => exact absurd h.1 (by simp)
theorem snd_tg {Wx : WX} {X : Cx} {S : ScB} {tg : Tg} {e : Expr} (hK : X.K = C.K) (hc : X.calm = true) (hN : X.N.Nodup) (so : ScOk C S X) (h : tgB tg S e = true) : ∃ g, PG X e g ∧ TgOk C g tg := by
  cases tg with
  | nm i =>
    cases e with
    | Name x p =>
      obtain ⟨h1, h2, h3⟩ := stoB_ok so (show stoB S i x = true from h)
      exact ⟨gName i, pg_name hN h1 h2 h3, tgok_nm i⟩
    | _ => cases h
  | tp is =>
    cases e with
    | Tuple es kk p =>
      obtain ⟨i1, i2, i3⟩ := snd_names hN so is es h
      exact ⟨gTup X.K is.length (gNames is), pg_tup hc i1 i2 i3, tgok_tp hK is⟩
    | _ => cases h
/-- what a comprehension asks -/
structure LcOk (C : Cn) (Wx : WX) (X : Cx) (k : Nat) (own : List Nat) (tg : Tg) (it : II) (t : IT) (el : IE) (elt tge iter : Expr) (ifs : List Expr) (scope : Scope) : Prop where
  ex : ∃ (own' : List (Str × Nat)) (g : TG), own'.map (·.2) = own ∧ L2.PI X tge iter (tI C Wx (evI C.D.L (run C.D.L C.D.fs k) it)) ∧ BlkOk X.N X.env.scope scope own' ∧ TgOk C g tg ∧
    (∀ (s : Shared) (H : Hp) (A : Addr) (cl : List (Str × Addr)) (fp : List Addr), PG (X.blk s H scope (compEnvC scope cl A X.env) fp) tge g) ∧
    (∀ (s : Shared) (H : Hp) (A : Addr) (cl : List (Str × Addr)) (fp : List Addr), PTs (X.blk s H scope (compEnvC scope cl A X.env) fp) ifs (tT C (fun _ _ _ _ => False) (evT C.D.L (run C.D.L C.D.fs k) t))) ∧
    (∀ (s : Shared) (H : Hp) (A : Addr) (cl : List (Str × Addr)) (fp : List Addr), PE (X.blk s H scope (compEnvC scope cl A X.env) fp) elt (tE C (fun _ _ _ _ => False) (evE C.D.L (run C.D.L C.D.fs k) el))) ∧
    (∀ x, foldedSetIterable iter X.env x = pure x) ∧ ∀ i ∈ tgIx tg, i ∈ own
theorem LcOk.pe {Wx : WX} {X : Cx} {own : List Nat} {tg : Tg} {it : II} {t : IT} {el : IE} {elt tge iter : Expr} {ifs : List Expr} {scope : Scope} {pos : Pos} (xf : XF C k X Wx) (h : LcOk C Wx X k own tg it t el elt tge iter ifs scope) :
    PE X (.ListComp elt [⟨tge, iter, ifs, 0⟩] scope pos) (tE C Wx (evE C.D.L (run C.D.L C.D.fs k) (.lc own tg it t el))) := by
  obtain ⟨own', g, e, hi, ok, tgk, hg, ht, he, hs, hin⟩ := h.ex
  subst e
  exact PE.mono (pe_lc xf.calm xf.nd hi ok hg ht he hs) fun σ H Q q => lc_read tgk hin q
theorem LcOk.set {Wx : WX} {X : Cx} {own : List Nat} {tg : Tg} {it : II} {t : IT} {el : IE} {elt tge iter : Expr} {ifs : List Expr} {scope : Scope} {pos spos py : Pos} {i : Nat} {y : Str} (xf : XF C k X Wx) (h : LcOk C Wx X k own tg it t el elt tge iter ifs scope)
    (hy : X.N[i]? = some y) (hyl : X.env.scope.names.lookup y = some .local) (hsw : swapsWith (.ListComp elt [⟨tge, iter, ifs, 0⟩] scope pos) (some (.Name y py)) spos.line X.env = pure true) :
    PS X (.Assign [.Name y py] (.ListComp elt [⟨tge, iter, ifs, 0⟩] scope pos) spos) (tSt C Wx fun ρ G => (evE C.D.L (run C.D.L C.D.fs k) (.lc own tg it t el) ρ G).thn ρ fun x G1 => .nx (ρ.set i (some x)) G1) := by
  obtain ⟨own', g, e, hi, ok, tgk, hg, ht, he, hs, hin⟩ := h.ex
  subst e
  exact PS.mono (ps_setLc xf.calm xf.nd hy hyl hsw hi ok hg ht he hs) fun D σ H ⟨ρ, Z, G, st, hr, q⟩ => lc_read tgk hin (tS_bind st hr q fun x v Z1 G1 H1 m h1 => okS.next m.hr h1 (m.st.set i m.rep))
/-- .. from its parts -/
theorem sndLc {S : ScB} {elt tge iter : Expr} {ifs : List Expr} {scope : Scope} (own : List Nat) (tg : Tg) (it : II) (t : IT) (el : IE) (hI : ∀ (X : Cx) (Wx : WX), XF C k X Wx → ScOk C S X → L2.PI X tge iter (tI C Wx (evI C.D.L (run C.D.L C.D.fs k) it)))
    (hE : ∀ (X : Cx) (Wx : WX), XF C k X Wx → ScOk C (S.blk scope) X → PE X elt (tE C Wx (evE C.D.L (run C.D.L C.D.fs k) el)))
    (hT : (ifs = [] ∧ t = .yes) ∨ ∃ c, ifs = [c] ∧ ∀ (X : Cx) (Wx : WX), XF C k X Wx → ScOk C (S.blk scope) X → PT X c (tT C Wx (evT C.D.L (run C.D.L C.D.fs k) t)))
    (h2 : blkC S.N S.sc scope (ownP S own) = true) (h3 : ((tgIx tg).all fun i => own.contains i) = true) (h4 : notSet iter = true) (h5 : tgB tg (S.blk scope) tge = true) (X : Cx) (Wx : WX) (xf : XF C k X Wx) (so : ScOk C S X) : LcOk C Wx X k own tg it t el elt tge iter ifs scope := by
  have tgk : ∃ g, TgOk C g tg ∧ ∀ (s : Shared) (H : Hp) (A : Addr) (cl : List (Str × Addr)) (fp : List Addr), PG (X.blk s H scope (compEnvC scope cl A X.env) fp) tge g := by
    cases tg with
    | nm i =>
      refine ⟨gName i, tgok_nm i, fun s H A cl fp => ?_⟩
      cases tge with
      | Name x p =>
        obtain ⟨q1, q2, q3⟩ := stoB_ok (so.blk s H scope cl A fp) (show stoB (S.blk scope) i x = true from h5)
        exact pg_name xf.nd q1 q2 q3
      | _ => cases h5
    | tp is =>
      refine ⟨gTup X.K is.length (gNames is), tgok_tp xf.K is, fun s H A cl fp => ?_⟩
      cases tge with
      | Tuple es kk p =>
        have go := snd_names (X := X.blk s H scope (compEnvC scope cl A X.env) fp) xf.nd (so.blk s H scope cl A fp) is es h5
        exact pg_tup (X := X.blk s H scope (compEnvC scope cl A X.env) fp) xf.calm go.1 go.2.1 go.2.2
      | _ => cases h5
  obtain ⟨g, tk, hg⟩ := tgk
  refine ⟨ownP S own, g, by rw [ownP, List.map_map]; exact List.map_id own, hI X Wx xf so, blkOk_by (by rw [so.N, so.sc]; exact h2), tk, hg, fun s H A cl fp => ?_, fun s H A cl fp => hE _ _ (xf.blk s H scope cl A fp) (so.blk s H scope cl A fp), fun x => notSet_ok h4 _ _, fun i hi => ?_⟩
  · rcases hT with ⟨rfl, rfl⟩ | ⟨c, rfl, hT⟩
    · exact ⟨fun pins s σ H Q I ⟨ρ, Z, G, st, hr, z⟩ => pts_nil.run pins s σ H Q I (okG.here (rel := relB) hr z rfl)⟩
    · exact pts_one (hT _ _ (xf.blk s H scope cl A fp) (so.blk s H scope cl A fp))
  · have := List.all_eq_true.mp h3 i hi
    exact List.mem_of_elem_eq_true this
theorem pw_bool {X : Cx} {op : BoolOp} {vs : List Expr} {p : Pos} {t : TT} (h : PT X (.BoolOp op vs p) t) : PW X (.BoolOp op vs p) t := ⟨fun wh pins s σ H Q I q => h.run pins s σ H Q I q⟩
variable (hlc : ∀ (i : Nat) (a : Arguments) (b : Expr) (c : Scope), lc i a b c = true → C.lk i a b c)
include hlc
mutual
theorem sndE : ∀ (ie : IE) (S : ScB) (e : Expr), chkE lc C.D ie S e = true → ∀ (X : Cx) (Wx : WX), XF C k X Wx → ScOk C S X → PE X e (tE C Wx (evE C.D.L (run C.D.L C.D.fs k) ie))
  | .never, S, e, h, X, Wx, xf, so => ⟨fun _ _ _ _ _ _ ⟨_, _, _, _, _, q⟩ => (show False from q).elim⟩
  | .non, S, e, h, X, Wx, xf, so => by
    simp only [chkE] at h
    split at h
    · exact s_non
    · cases h
  | .bl b, S, e, h, X, Wx, xf, so => by
    simp only [chkE] at h
    split at h
    · obtain rfl := eq_of_beq h
      exact s_bl
    · cases h
  | .int b, S, e, h, X, Wx, xf, so => by
    simp only [chkE] at h
    split at h
    · obtain rfl := eq_of_beq h
      exact s_int
    · cases h
  | .str b, S, e, h, X, Wx, xf, so => by
    simp only [chkE] at h
    split at h
    · obtain rfl := of_decide_eq_true h
      exact s_str
    · cases h
  | .v i, S, e, h, X, Wx, xf, so => by
    simp only [chkE] at h
    split at h
    · obtain ⟨h1, h2, h3, h4⟩ := varB_ok so h
      exact s_v h1 h2 h3 h4
    · cases h
  | .g j, S, e, h, X, Wx, xf, so => by
    simp only [chkE] at h
    split at h
    · simp only [Bool.and_eq_true, decide_eq_true_eq] at h
      obtain ⟨hg, hd⟩ := glN_ok so h.2
      obtain ⟨v, u, w, hm, r, hw, rep⟩ := xf.txt.gv j _ h.1
      refine PE.mono (s_g (C := C) (Wx := Wx) (w := w) hg hm r rep hd) fun σ H Q ⟨ρ, Z, G, st, hr, z⟩ => ⟨ρ, Z, G, st, hr, ?_⟩
      simp only [evE, hw] at z
      exact z
    · cases h
  | .f j, S, e, h, X, Wx, xf, so => by
    simp only [chkE] at h
    split at h
    · simp only [Bool.and_eq_true, decide_eq_true_eq, Bool.not_eq_true', decide_eq_false_iff_not] at h
      obtain ⟨⟨⟨h1, h2⟩, h3⟩, h4⟩ := h
      obtain ⟨hg, hd⟩ := glN_ok so h3
      obtain ⟨hm, _⟩ := xf.txt.gf j _ h1 h2
      exact s_g (v := .ref (C.fa j)) hg hm rfl (fun _ _ _ => .fn j h4) hd
    · cases h
  | .op o a b, S, e, h, X, Wx, xf, so => by
    simp only [chkE] at h
    split at h
    · simp only [Bool.and_eq_true] at h
      obtain ⟨⟨h1, h2⟩, h3⟩ := h
      have ha := sndE a S _ h2 X Wx xf so
      have hb := sndE b S _ h3 X Wx xf so
      rename_i x q y p
      cases o <;> cases q <;> first | (cases h1; done) | exact s_add xf.K ha hb | exact s_sub ha hb | exact s_mul ha hb | exact s_fdiv ha hb | exact s_mod ha hb | exact s_pow ha hb
    · cases h
  | .neg a, S, e, h, X, Wx, xf, so => by
    simp only [chkE] at h
    split at h
    · exact s_neg (sndE a S _ h X Wx xf so)
    · cases h
  | .cmp o a b, S, e, h, X, Wx, xf, so => by
    simp only [chkE] at h
    split at h
    · simp only [Bool.and_eq_true, Bool.not_eq_true'] at h
      obtain ⟨⟨⟨h1, h2⟩, h3⟩, h4⟩ := h
      obtain rfl := copB_ok h1
      exact s_cmp xf.K xf.room.units o h2 (sndE a S _ h3 X Wx xf so) (sndE b S _ h4 X Wx xf so)
    · cases h
  | .chain o o' a b c, S, e, h, X, Wx, xf, so => by
    simp only [chkE] at h
    split at h
    · simp only [Bool.and_eq_true, Bool.not_eq_true'] at h
      obtain ⟨⟨⟨⟨⟨h1, h1'⟩, h2⟩, h3⟩, h4⟩, h5⟩ := h
      obtain rfl := copB_ok h1
      obtain rfl := copB_ok h1'
      exact s_chain xf.K xf.room.units o o' h2 (sndE a S _ h3 X Wx xf so) (sndE b S _ h4 X Wx xf so) (sndE c S _ h5 X Wx xf so)
    · cases h
  | .andV a b, S, e, h, X, Wx, xf, so => by
    simp only [chkE] at h
    split at h
    · simp only [Bool.and_eq_true] at h
      obtain ⟨h1, h2⟩ := h
      have ha := sndE a S _ h1 X Wx xf so
      split at h2
      · exact s_andV ha (pe_one (sndE b S _ h2 X Wx xf so))
      · exact s_andV ha (sndE b S _ h2 X Wx xf so)
    · cases h
  | .orV a b, S, e, h, X, Wx, xf, so => by
    simp only [chkE] at h
    split at h
    · simp only [Bool.and_eq_true] at h
      obtain ⟨h1, h2⟩ := h
      have ha := sndE a S _ h1 X Wx xf so
      split at h2
      · exact s_orV ha (pe_one (sndE b S _ h2 X Wx xf so))
      · exact s_orV ha (sndE b S _ h2 X Wx xf so)
    · cases h
  | .notV a, S, e, h, X, Wx, xf, so => by
    simp only [chkE] at h
    split at h
    · exact s_notV (sndE a S _ h X Wx xf so)
    · cases h
  | .ife t a b, S, e, h, X, Wx, xf, so => by
    simp only [chkE] at h
    split at h
    · simp only [Bool.and_eq_true] at h
      obtain ⟨⟨h1, h2⟩, h3⟩ := h
      exact s_ife (sndT t S _ h1 X Wx xf so) (sndE a S _ h2 X Wx xf so) (sndE b S _ h3 X Wx xf so)
    · cases h
  | .tup es, S, e, h, X, Wx, xf, so => by
    simp only [chkE] at h
    split at h
    · exact s_tup (sndA es S _ h X Wx xf so)
    · cases h
  | .lst mu es, S, e, h, X, Wx, xf, so => by
    simp only [chkE] at h
    split at h
    · exact s_lst mu (sndA es S _ h X Wx xf so)
    · cases h
  | .ix a i, S, e, h, X, Wx, xf, so => by
    simp only [chkE] at h
    split at h
    · simp only [Bool.and_eq_true] at h
      obtain ⟨⟨h1, h2⟩, h3⟩ := h
      exact s_ix xf.K (notSl_ix h1) (sndE a S _ h2 X Wx xf so) (sndE i S _ h3 X Wx xf so)
    · cases h
  | .sl a lo hi, S, e, h, X, Wx, xf, so => by
    simp only [chkE] at h
    split at h
    · simp only [Bool.and_eq_true] at h
      obtain ⟨⟨h1, h2⟩, h3⟩ := h
      exact s_sl xf.K (sndE a S _ h1 X Wx xf so) (sndO lo S _ h2 X Wx xf so) (sndO hi S _ h3 X Wx xf so)
    · cases h
  | .call i es ds, S, e, h, X, Wx, xf, so => by
    simp only [chkE] at h
    split at h
    · simp only [Bool.and_eq_true, decide_eq_true_eq, Bool.not_eq_true', decide_eq_false_iff_not] at h
      obtain ⟨⟨⟨⟨⟨h1, h2⟩, h3⟩, h4⟩, h5⟩, h6⟩ := h
      obtain ⟨hg, hd⟩ := glN_ok so h3
      obtain ⟨F, dfs, hF, hL, hdf, hin⟩ := fnB_ok h4
      have ha := sndA es S _ h6 X Wx xf so
      rename_i x p xs pos
      cases xs with
      | nil =>
        have q := s_call0 (Wx := Wx) (p := p) (pos := pos) xf hF hL h1 h2 hg hdf hin hd
        cases es with
        | nil => exact q
        | cons _ _ => simp [chkEs] at h6
        | star _ _ => simp [chkEs] at h6
      | cons y ys => exact s_call xf hF hL h1 h2 hg hdf hin hd h5 ha
    · cases h
  | .callV i es, S, e, h, X, Wx, xf, so => by
    simp only [chkE] at h
    split at h
    · simp only [Bool.and_eq_true] at h
      obtain ⟨⟨h1, h2⟩, h3⟩ := h
      obtain ⟨q1, q2, q3, q4⟩ := varB_ok so h1
      exact s_callV xf q1 q2 q3 q4 h2 (sndA es S _ h3 X Wx xf so)
    · cases h
  | .callK i es ks pm, S, e, h, X, Wx, xf, so => by
    simp only [chkE] at h
    split at h
    · simp only [Bool.and_eq_true, decide_eq_true_eq, Bool.not_eq_true', decide_eq_false_iff_not] at h
      obtain ⟨⟨⟨⟨⟨⟨⟨h1, h2⟩, h3⟩, h4⟩, hL⟩, h5⟩, h6⟩, h7⟩ := h
      obtain ⟨hg, hd⟩ := glN_ok so h3
      obtain ⟨F, hF⟩ := Option.isSome_iff_exists.mp h4
      exact s_callK0 xf hF hL h1 h2 hg h5 h6 hd (sndK ks S _ h7 X Wx xf so)
    · cases h
  | .bi b es, S, e, h, X, Wx, xf, so => by
    simp only [chkE] at h
    split at h
    · simp only [Bool.and_eq_true, decide_eq_true_eq] at h
      obtain ⟨⟨⟨⟨h1, h2⟩, h3⟩, h4⟩, h5⟩ := h
      obtain ⟨hg, hd⟩ := glN_ok so h3
      exact snd_bi xf h1 (xf.txt.bs _ (List.mem_of_elem_eq_true h2)) hg hd h4 (sndA es S _ h5 X Wx xf so)
    · cases h
  | .lc own tg it t el, S, e, h, X, Wx, xf, so => by
    simp only [chkE] at h
    split at h
    · simp only [Bool.and_eq_true] at h
      obtain ⟨⟨⟨⟨⟨⟨⟨h1, h2⟩, h3⟩, h4⟩, h5⟩, h6⟩, h7⟩, h8⟩ := h
      obtain rfl := eq_of_beq h1
      rename_i elt tge iter ifs scope pos
      exact LcOk.pe xf (sndLc own tg it t el (fun X Wx xf so => sndI it S tge iter h6 X Wx xf so) (fun X Wx xf so => sndE el (S.blk scope) elt h8 X Wx xf so) (by
        split at h7
        · exact .inl ⟨rfl, by cases t <;> first | rfl | cases h7⟩
        · exact .inr ⟨_, rfl, fun X Wx xf so => sndT t (S.blk scope) _ h7 X Wx xf so⟩
        · cases h7) h2 h3 h4 h5 X Wx xf so)
    · cases h
  | .fld a c j, S, e, h, X, Wx, xf, so => by
    simp only [chkE] at h
    split at h
    · simp only [Bool.and_eq_true] at h
      obtain ⟨⟨h1, h2⟩, h3⟩ := h
      obtain ⟨x, hx, hj⟩ := flB_ok h2
      exact s_fld xf (notCall_ok h1 _ _ _) (sndE a S _ h3 X Wx xf so) hx hj
    · cases h
  | .meth a m es, S, e, h, X, Wx, xf, so => by
    simp only [chkE] at h
    split at h
    · simp only [Bool.and_eq_true, decide_eq_true_eq] at h
      obtain ⟨⟨⟨⟨⟨⟨⟨h1, h2⟩, h3⟩, h4⟩, h5⟩, h6⟩, h7⟩, h8⟩ := h
      rename_i o mn apos xs pos
      split at h3
      · rename_i ci i hci
        obtain ⟨F, dfs, hF, hL, hdf, hin⟩ := fnB_ok h3
        have ho := sndE a S _ h7 X Wx xf so
        have ha := sndA es S _ h8 X Wx xf so
        cases xs with
        | nil =>
          have q := s_meth0 (x := mn) xf hci h2 hF hL hdf hin ho (meth_eq h1 h4 h5 h6)
          cases es with
          | nil => exact q
          | cons _ _ => simp [chkEs] at h8
          | star _ _ => simp [chkEs] at h8
        | cons y ys => exact s_meth (x := mn) xf hci h2 hF hL hdf hin ho h4 ha (meth_eq h1 h4 h5 h6)
      · cases h3
    · cases h
  | .mk c, S, e, h, X, Wx, xf, so => by
    simp only [chkE] at h
    split at h
    · simp only [Bool.and_eq_true, decide_eq_true_eq] at h
      obtain ⟨⟨h1, h2⟩, h3⟩ := h
      obtain ⟨hg, hd⟩ := glN_ok so h2
      split at h3
      · rename_i i n hi
        obtain ⟨F, dfs, hF, hL, hdf, hin⟩ := fnB_ok h3
        exact s_mk xf h1 hi hF hL hdf hin hg hd
      · cases h3
    · cases h
  | .isIns a c, S, e, h, X, Wx, xf, so => by simp [chkE] at h
  | .isT t a, S, e, h, X, Wx, xf, so => by
    simp only [chkE] at h
    split at h
    · simp only [Bool.and_eq_true, decide_eq_true_eq, Bool.not_eq_true'] at h
      obtain ⟨⟨⟨⟨⟨⟨⟨h1, h2⟩, h3⟩, h4⟩, h5⟩, h6⟩, h7⟩, h8⟩ := h
      subst h1
      subst h4
      exact s_isT t xf.K (glN_ok so h3).1 (xf.txt.bs _ (List.mem_of_elem_eq_true h2)) (glN_ok so h6).1 (xf.txt.bs _ (List.mem_of_elem_eq_true h5)) h7 (sndE a S _ h8 X Wx xf so)
    · cases h
  | .inG a j, S, e, h, X, Wx, xf, so => by
    simp only [chkE] at h
    split at h
    · simp only [Bool.and_eq_true, decide_eq_true_eq] at h
      obtain ⟨⟨h1, h2⟩, h3⟩ := h
      obtain ⟨hg, hd⟩ := glN_ok so h2
      exact s_inG xf h1 hg hd (sndE a S _ h3 X Wx xf so) rfl
    · cases h
  | .ixG j a, S, e, h, X, Wx, xf, so => by
    simp only [chkE] at h
    split at h
    · simp only [Bool.and_eq_true, decide_eq_true_eq] at h
      obtain ⟨⟨⟨h1, h2⟩, h3⟩, h4⟩ := h
      obtain ⟨hg, hd⟩ := glN_ok so h2
      exact s_ixG xf h1 hg hd (notSl_ix h3) (sndE a S _ h4 X Wx xf so)
    · cases h
  | .pop a, S, e, h, X, Wx, xf, so => by simp [chkE] at h
  | .lam i t m, S, e, h, X, Wx, xf, so => by
    simp only [chkE] at h
    split at h
    · simp only [Bool.and_eq_true, decide_eq_true_eq, Bool.not_eq_true', List.all_eq_true, decide_eq_false_iff_not] at h
      obtain ⟨⟨⟨⟨h1, h2⟩, h3⟩, h4⟩, h5⟩ := h
      obtain ⟨c, q1, q2, q3⟩ := so.me m h1
      refine s_lam q1 q2 q3 ⟨h2, hlc _ _ _ _ h3⟩ ?_ h5
      rename_i ps body sc pos
      obtain ⟨p1, p2, p3, p4, p5, p6, p7⟩ := ps
      simp only [noDfl, Bool.and_eq_true, List.isEmpty_iff] at h4
      obtain ⟨a1, a2⟩ := h4
      subst a1
      subst a2
      rfl
    · cases h
  | .dct ks xs, S, e, h, X, Wx, xf, so => by
    simp only [chkE] at h
    split at h
    · simp only [Bool.and_eq_true, decide_eq_true_eq] at h
      exact s_dct h.1.1 h.1.2 h.2
    · cases h
theorem sndA : ∀ (es : IEs) (S : ScB) (xs : List Expr), chkEs lc C.D es S xs = true → ∀ (X : Cx) (Wx : WX), XF C k X Wx → ScOk C S X → PA X xs (tA C Wx (evEs C.D.L (run C.D.L C.D.fs k) es))
  | .nil, S, xs, h, X, Wx, xf, so => by
    simp only [chkEs] at h
    split at h
    · exact s_anil
    · cases h
  | .cons e r, S, xs, h, X, Wx, xf, so => by
    simp only [chkEs] at h
    split at h
    · simp only [Bool.and_eq_true, Bool.not_eq_true'] at h
      obtain ⟨⟨h1, h2⟩, h3⟩ := h
      exact s_acons h1 (sndE e S _ h2 X Wx xf so) (sndA r S _ h3 X Wx xf so)
    · cases h
  | .star e r, S, xs, h, X, Wx, xf, so => by
    simp only [chkEs] at h
    split at h
    · simp only [Bool.and_eq_true] at h
      exact s_astar xf.K (sndE e S _ h.1 X Wx xf so) (sndA r S _ h.2 X Wx xf so)
    · cases h
theorem sndK : ∀ (es : IEs) (S : ScB) (xs : List Keyword), chkKs lc C.D es S xs = true → ∀ (X : Cx) (Wx : WX), XF C k X Wx → ScOk C S X → PK X xs (tAn C Wx xs.length (evEs C.D.L (run C.D.L C.D.fs k) es))
  | .nil, S, xs, h, X, Wx, xf, so => by
    simp only [chkKs] at h
    split at h
    · exact s_knil
    · cases h
  | .cons e r, S, xs, h, X, Wx, xf, so => by
    simp only [chkKs] at h
    split at h
    · simp only [Bool.and_eq_true] at h
      exact s_kcons (sndE e S _ h.1 X Wx xf so) (sndK r S _ h.2 X Wx xf so)
    · cases h
  | .star e r, S, xs, h, X, Wx, xf, so => by simp [chkKs] at h
theorem sndO : ∀ (o : IO) (S : ScB) (x : Option Expr), chkO lc C.D o S x = true → ∀ (X : Cx) (Wx : WX), XF C k X Wx → ScOk C S X → PO X x (tG C Wx relO (evO C.D.L (run C.D.L C.D.fs k) o))
  | .no, S, x, h, X, Wx, xf, so => by
    simp only [chkO] at h
    split at h
    · exact s_ono
    · cases h
  | .yes e, S, x, h, X, Wx, xf, so => by
    simp only [chkO] at h
    split at h
    · exact s_oyes (sndE e S _ h X Wx xf so)
    · cases h
theorem sndT : ∀ (t : IT) (S : ScB) (e : Expr), chkT lc C.D t S e = true → ∀ (X : Cx) (Wx : WX), XF C k X Wx → ScOk C S X → PT X e (tT C Wx (evT C.D.L (run C.D.L C.D.fs k) t))
  | .yes, S, e, h, X, Wx, xf, so => by simp [chkT] at h
  | .and a b, S, e, h, X, Wx, xf, so => by
    simp only [chkT] at h
    split at h
    · simp only [Bool.and_eq_true] at h
      obtain ⟨h1, h2⟩ := h
      have ha := sndT a S _ h1 X Wx xf so
      split at h2
      · exact (s_tand ha (pw_and1 (sndT b S _ h2 X Wx xf so))).pt
      · exact (s_tand ha (pw_bool (sndT b S _ h2 X Wx xf so))).pt
    · cases h
  | .or a b, S, e, h, X, Wx, xf, so => by
    simp only [chkT] at h
    split at h
    · simp only [Bool.and_eq_true] at h
      obtain ⟨h1, h2⟩ := h
      have ha := sndT a S _ h1 X Wx xf so
      split at h2
      · exact (s_tor ha (pw_or1 (sndT b S _ h2 X Wx xf so))).pt
      · exact (s_tor ha (pw_bool (sndT b S _ h2 X Wx xf so))).pt
    · cases h
  | .not a, S, e, h, X, Wx, xf, so => by
    simp only [chkT] at h
    split at h
    · exact s_tnot (sndT a S _ h X Wx xf so)
    · cases h
  | .val a, S, e, h, X, Wx, xf, so => by
    by_cases q : plainV e = true
    · have h' : chkE lc C.D a S e = true := by
        simp only [chkT, q, Bool.true_and, Bool.or_eq_true] at h
        rcases h with h | h
        · exact h
        · split at h
          · exact h
          · exact h
          · cases h
      exact s_tval (sndE a S _ h' X Wx xf so) (plainV_ok q _)
    · simp only [chkT, Bool.or_eq_true] at h
      have h := h.resolve_left fun z => q ((Bool.and_eq_true _ _).mp z).1
      cases a with
      | cmp o a b =>
        simp only [chkE] at h
        split at h
        · simp only [Bool.and_eq_true, Bool.not_eq_true'] at h
          obtain ⟨⟨⟨h1, h2⟩, h3⟩, h4⟩ := h
          obtain rfl := copB_ok h1
          exact s_tcmp xf.K xf.room.units o h2 (sndE a S _ h3 X Wx xf so) (sndE b S _ h4 X Wx xf so)
        · cases h
      | chain o o' a b c =>
        simp only [chkE] at h
        split at h
        · simp only [Bool.and_eq_true, Bool.not_eq_true'] at h
          obtain ⟨⟨⟨⟨⟨h1, h1'⟩, h2⟩, h3⟩, h4⟩, h5⟩ := h
          obtain rfl := copB_ok h1
          obtain rfl := copB_ok h1'
          exact s_tchain xf.K xf.room.units o o' h2 (sndE a S _ h3 X Wx xf so) (sndE b S _ h4 X Wx xf so) (sndE c S _ h5 X Wx xf so)
        · cases h
      | _ => simp at h
  | .tru a, S, e, h, X, Wx, xf, so => by
    simp only [chkT, Bool.and_eq_true] at h
    exact s_ttru xf.K (sndE a S _ h.2 X Wx xf so) (plainV_ok h.1 _)
theorem sndI : ∀ (it : II) (S : ScB) (tge e : Expr), chkI lc C.D it S tge e = true → ∀ (X : Cx) (Wx : WX), XF C k X Wx → ScOk C S X → L2.PI X tge e (tI C Wx (evI C.D.L (run C.D.L C.D.fs k) it))
  | .seq a, S, tge, e, h, X, Wx, xf, so => by
    simp only [chkI, Bool.and_eq_true] at h
    exact s_iseq xf.K (sndE a S _ h.2 X Wx xf so)
  | .r1 a, S, tge, e, h, X, Wx, xf, so => by
    simp only [chkI] at h
    split at h
    · simp only [Bool.and_eq_true, decide_eq_true_eq, Bool.not_eq_true'] at h
      obtain ⟨⟨⟨⟨h1, h2⟩, h3⟩, h4⟩, h5⟩ := h
      subst h1
      exact s_ir1 (glN_ok so h3).1 (xf.txt.bs _ (List.mem_of_elem_eq_true h2)) h4 (sndE a S _ h5 X Wx xf so)
    · cases h
  | .r2 a b, S, tge, e, h, X, Wx, xf, so => by
    simp only [chkI] at h
    split at h
    · simp only [Bool.and_eq_true, decide_eq_true_eq, Bool.not_eq_true'] at h
      obtain ⟨⟨⟨⟨⟨⟨h1, h2⟩, h3⟩, h4⟩, h5⟩, h6⟩, h7⟩ := h
      subst h1
      exact s_ir2 (glN_ok so h3).1 (xf.txt.bs _ (List.mem_of_elem_eq_true h2)) h4 h5 (sndE a S _ h6 X Wx xf so) (sndE b S _ h7 X Wx xf so)
    · cases h
  | .enum a, S, tge, e, h, X, Wx, xf, so => by
    simp only [chkI] at h
    split at h
    · simp only [Bool.and_eq_true, decide_eq_true_eq, Bool.not_eq_true'] at h
      obtain ⟨⟨⟨⟨⟨h1, h2⟩, h3⟩, h4⟩, h5⟩, h6⟩ := h
      subst h1
      cases tge with
      | Tuple es kk tp => exact s_ienm xf.K (glN_ok so h3).1 (xf.txt.bs _ (List.mem_of_elem_eq_true h2)) h4 (sndE a S _ h6 X Wx xf so)
      | _ => simp [notTup] at h5
    · cases h
end
end
end PI
end

section
set_option autoImplicit false
set_option maxHeartbeats 4000000
/-! PI17: soundness for statements. -/
namespace PI
open PySem L2
section
variable (C : Cn)
structure XS (k : Nat) (X : Cx) (Wx : WX) : Prop where
  xf : XF C k X Wx
  own : PassesOwn (model X.prog X.w) X.A X.env X.xe
  stk : X.stack = X.env :: X.outer
  frm : X.env.frame = some X.env.locals
  knd : X.env.scope.kind = .function
end
section
variable {C : Cn} {k : Nat}
theorem XS.tr {X : Cx} {Wx W : WX} {pn : List (Addr × Obj)} {xe : Value → Shared → Prop} (xs : XS C k X Wx) (tk : Takes (X.tr pn xe) W) (ow : PassesOwn (model X.prog X.w) X.A X.env xe) : XS C k (X.tr pn xe) W where
  xf := ⟨xs.xf.K, xs.xf.nd, xs.xf.calm, xs.xf.room, xs.xf.grd, tk, xs.xf.fns, xs.xf.lams, xs.xf.txt, xs.xf.ext, xs.xf.exb, xs.xf.exi⟩
  own := ow
  stk := xs.stk
  frm := xs.frm
  knd := xs.knd
theorem ScOk.tr {S : ScB} {X : Cx} {pn : List (Addr × Obj)} {xe : Value → Shared → Prop} (so : ScOk C S X) : ScOk C S (X.tr pn xe) := ⟨so.N, so.sc, so.fn, so.me⟩
theorem parB_ok {S : ScB} {X : Cx} {x y : Str} {px py pt pt2 : Pos} {kt k2 : Nat} {a b : Expr} (hk : X.env.scope.kind = .function) (so : ScOk C S X) (h : parB S x y px py a b = true) :
    swappedStores [.Tuple [.Name x px, .Name y py] kt pt] (.Tuple [a, b] k2 pt2) X.env = pure (some [x, y]) := by
  simp only [parB, Bool.and_eq_true, Bool.not_eq_true', decide_eq_false_iff_not] at h
  obtain ⟨⟨⟨⟨⟨⟨⟨h1, h2⟩, h3⟩, h4⟩, h5⟩, h6⟩, h7⟩, h8⟩ := h
  have k1 : X.env.kindOf x = some .local := isL_ok so h1
  have k2 : X.env.kindOf y = some .local := isL_ok so h2
  have hb : X.env.blockKind = .function := by unfold Env.blockKind; rw [hk]; rfl
  have hl : (py.line == px.line) = true := by
    have := eq_of_beq h3
    rw [this]
    exact beq_self_eq_true _
  have ed : ([x, y] : List Str).eraseDups = [x, y] := by
    have hne : (x == y) = false := beq_eq_false_iff_ne.mpr h4
    have hne' : (y == x) = false := beq_eq_false_iff_ne.mpr fun z => h4 z.symm
    first
      | (simp [List.eraseDups, List.eraseDupsBy, List.eraseDupsBy.loop, hne, hne']; done)
      | (simp [List.eraseDups_cons, hne, hne']; done)
  unfold swappedStores
  simp only [hb, k1, k2, hl, List.all_cons, List.all_nil, Bool.and_true, h7, h8, List.length_cons, List.length_nil, List.head?, Option.map, Expr.pos, Option.getD, List.filterMap]
  simp only [List.any_cons, List.any_nil, Bool.or_false]
  simp [h7, h8]
  rw [if_neg, if_pos (by rw [ed]; rfl)]
  rintro (z | z)
  · split at z
    · cases h5
    · cases z
  · split at z
    · cases h6
    · cases z
theorem par3B_ok {S : ScB} {X : Cx} {x y z : Str} {px py pz pt pt2 : Pos} {kt k2 : Nat} {a b c : Expr} (hk : X.env.scope.kind = .function) (so : ScOk C S X) (h : par3B S x y z px py pz a b c = true) :
    swappedStores [.Tuple [.Name x px, .Name y py, .Name z pz] kt pt] (.Tuple [a, b, c] k2 pt2) X.env = pure (some [x, y, z]) := by
  simp only [par3B, Bool.and_eq_true, Bool.not_eq_true', decide_eq_false_iff_not] at h
  obtain ⟨⟨⟨⟨⟨⟨⟨⟨⟨⟨⟨⟨h1, h2⟩, h2z⟩, h3⟩, h3z⟩, h4⟩, h4b⟩, h4c⟩, h5⟩, h6⟩, h6z⟩, h7⟩, h8⟩ := h
  have k1 : X.env.kindOf x = some .local := isL_ok so h1
  have k2 : X.env.kindOf y = some .local := isL_ok so h2
  have k3 : X.env.kindOf z = some .local := isL_ok so h2z
  have hb : X.env.blockKind = .function := by unfold Env.blockKind; rw [hk]; rfl
  have hl : (py.line == px.line) = true := by
    have := eq_of_beq h3
    rw [this]
    exact beq_self_eq_true _
  have hl2 : (pz.line == px.line) = true := by
    have := eq_of_beq h3z
    rw [this]
    exact beq_self_eq_true _
  have ed : ([x, y, z] : List Str).eraseDups = [x, y, z] := by
    have n1 : (x == y) = false := beq_eq_false_iff_ne.mpr h4
    have n2 : (y == x) = false := beq_eq_false_iff_ne.mpr fun z => h4 z.symm
    have n3 : (x == z) = false := beq_eq_false_iff_ne.mpr h4b
    have n4 : (z == x) = false := beq_eq_false_iff_ne.mpr fun z => h4b z.symm
    have n5 : (y == z) = false := beq_eq_false_iff_ne.mpr h4c
    have n6 : (z == y) = false := beq_eq_false_iff_ne.mpr fun z => h4c z.symm
    first
      | (simp [List.eraseDups, List.eraseDupsBy, List.eraseDupsBy.loop, n1, n2, n3, n4, n5, n6]; done)
      | (simp [List.eraseDups_cons, n1, n2, n3, n4, n5, n6]; done)
  unfold swappedStores
  simp only [hb, k1, k2, k3, hl, hl2, List.all_cons, List.all_nil, Bool.and_true, h7, h8, List.length_cons, List.length_nil, List.head?, Option.map, Expr.pos, Option.getD, List.filterMap]
  simp only [List.any_cons, List.any_nil, Bool.or_false]
  simp [h7, h8]
  rw [if_neg, if_pos (by rw [ed]; rfl)]
  rintro (z | z | z)
  · split at z
    · cases h5
    · cases z
  · split at z
    · cases h6
    · cases z
  · split at z
    · cases h6z
    · cases z
theorem sndX {X : Cx} {S : ScB} {a : Addr} {oe : Obj} {cls : Value} {d : Option Addr} {pn : List (Addr × Obj)} {n : Option (Nat × Str)} {Wx : WX} (xf : XF C k X Wx) (so : ScOk C S X) (hz : Zc cls d oe) (hfs : ∃ vs, oe.data = .fields vs) : ∀ (se : SE) (e : Expr), chkX C.D se n S e = true →
    PE (X.suite a ((a, oe) :: pn)) e (tSE C a cls d (n.map (·.1)) se)
  | .c w, e, h => by
    simp only [chkX] at h
    split at h
    · exact se_non
    · obtain rfl := eq_of_beq h
      exact se_bl
    · obtain rfl := eq_of_beq h
      exact se_int
    · obtain rfl := of_decide_eq_true h
      exact se_str
    · cases h
  | .fld dc, e, h => by
    simp only [chkX] at h
    split at h
    · simp only [Bool.and_eq_true, decide_eq_true_eq] at h
      obtain ⟨⟨⟨h1, h2⟩, h3⟩, h4⟩ := h
      subst h1
      obtain ⟨v1, v2, v3, v4⟩ := varB_ok so h2
      obtain ⟨x, hx⟩ := Option.isSome_iff_exists.mp h3
      exact se_fld xf.ext v1 v2 v3 v4 hx h4 hz hfs
    · cases h
  | .isx dc, e, h => by
    simp only [chkX] at h
    split at h
    · simp only [Bool.and_eq_true, decide_eq_true_eq] at h
      obtain ⟨⟨⟨⟨⟨⟨⟨h1, h2⟩, h3⟩, h4⟩, h5⟩, h6⟩, h7⟩, h8⟩ := h
      subst h1
      subst h5
      obtain ⟨v1, v2, v3, v4⟩ := varB_ok so h2
      obtain ⟨g1, g2⟩ := glN_ok so h4
      exact se_isx xf.ext v1 v2 v3 v4 h3 (glN_ok so h7).1 (xf.txt.bs _ (List.mem_of_elem_eq_true h6)) g1 g2 hz hfs fun c hc => by
        obtain ⟨ds, hds⟩ := Option.isSome_iff_exists.mp hc
        have := (List.getElem?_eq_some_iff.mp hds).1
        exact ⟨_, List.getElem?_eq_getElem (by omega)⟩
    · cases h
  | .ife t x y, e, h => by
    simp only [chkX] at h
    split at h
    · simp only [Bool.and_eq_true] at h
      obtain ⟨⟨⟨h1, h2⟩, h3⟩, h4⟩ := h
      exact se_ife (sndX xf so hz hfs t _ h2) (sndX xf so hz hfs x _ h3) (sndX xf so hz hfs y _ h4) (plainV_ok h1 _)
    · cases h
  | .nt a, e, h => by simp [chkX] at h
  | .isN a, e, h => by simp [chkX] at h
theorem snd_hs {X : Cx} {S : ScB} {Wx : WX} (xf : XF C k X Wx) (so : ScOk C S X) : ∀ (hs : List (Nat × SE)) (l : List ExceptHandler), chkHs C.D hs S l = true → ∃ cl : Clz, Clauses X l cl ∧
    ∀ (D : Ends) (Z : Wit) (G : Hh) (H : Hp) (c : Nat) (p : Option W) (ρ : Rho) (σ : L2.St) (d : Option Addr), HRep C Z G H → StRep C Z G.length H ρ σ → ExcAt C Z G H c p d → okS C Wx D Z G H (evHs C.D.L c p ρ G hs) → wMix X.K Wx D cl (.ref (C.xa c)) d σ H
  | [], l, h => by
    simp only [chkHs] at h
    split at h
    · exact ⟨[], .nil, fun D Z G H c p ρ σ d hr st ea q => q Z H σ d (Ext.refl hr) st ea⟩
    · cases h
  | (dc, se) :: r, l, h => by
    simp only [chkHs] at h
    split at h
    · simp only [Bool.and_eq_true, decide_eq_true_eq] at h
      obtain ⟨⟨⟨h1, h2⟩, h3⟩, h4⟩ := h
      obtain ⟨g1, g2⟩ := glN_ok so h2
      rename_i x np nm e rp pos' l'
      obtain ⟨cl, hcl, hw⟩ := snd_hs xf so r _ h4
      obtain ⟨hm, _, _⟩ := xf.ext.exc dc _ h1
      -- the clause
      have one : ∃ n : Option Nat, nameOk X nm n ∧ ∀ (a : Addr) (oe : Obj) (cls : Value) (d : Option Addr) (pn : List (Addr × Obj)), Zc cls d oe → (∃ vs, oe.data = .fields vs) → PSs (X.suite a ((a, oe) :: pn)) [.Return (some e) rp] (tRet (tSE C a cls d n se)) := by
        cases nm with
        | none => exact ⟨none, trivial, fun a oe cls d pn hz hf => pss_one (ps_ret (sndX (n := none) xf so hz hf se e h3))⟩
        | some y =>
          simp only at h3
          split at h3
          · rename_i i hi
            simp only [Bool.and_eq_true, decide_eq_true_eq] at h3
            obtain ⟨⟨q1, q2⟩, q3⟩ := h3
            exact ⟨some i, ⟨by rw [so.N]; exact q1, isL_ok so q2⟩, fun a oe cls d pn hz hf => pss_one (ps_ret (sndX (n := some (i, y)) xf so hz hf se e q3))⟩
          · cases h3
      obtain ⟨n, hn, hsu⟩ := one
      refine ⟨(.ref (C.xa dc), n, fun a cls d => tRet (tSE C a cls d n se)) :: cl, .cons ⟨g1, g2, .inl hm⟩ hn hsu hcl, fun D Z G H c p ρ σ d hr st ea q => ?_⟩
      simp only [evHs] at q
      cases es : C.D.L.subs[c]? with
      | none => rw [es] at q; exact q.elim
      | some ds =>
        simp only [es] at q
        refine ⟨ds.contains dc, (xf.ext.sub c ds es dc x h1).1, fun hb a ha => ?_, fun hb => ?_⟩
        · rw [if_pos hb] at q
          cases ev : evSE C.D.L c p se with
          | none => rw [ev] at q; exact q.elim
          | some w =>
            rw [ev] at q
            refine ⟨c, p, Z, G, w, rfl, hr, ea, fun i hi hlt => ?_, ev, fun v rv => ?_⟩
            · subst hi
              show (σ.set i (some (.ref a)))[i]? = some (some (.ref a))
              have hlt : i < (σ.set i (some (.ref a))).length := hlt
              rw [List.length_set] at hlt
              rw [List.getElem?_set_self hlt]
            · have e0 : (endN D n).rt = D.rt := by cases n <;> rfl
              rw [e0]
              exact okS.back hr q rv
        · rw [if_neg (by rw [hb]; exact Bool.false_ne_true)] at q
          exact hw D Z G H c p ρ σ d hr st ea q
    · cases h
theorem s_try {X : Cx} {S : ScB} {Wx : WX} {body : List Stmt} {h₀ : ExceptHandler} {l : List ExceptHandler} {pos : Pos} {fb : Rho → Hh → RS} {hs : List (Nat × SE)} (xs : XS C k X Wx) (so : ScOk C S X)
    (hb : ∀ (X : Cx) (Wx : WX), XS C k X Wx → ScOk C S X → PSs X body (tSt C Wx fb)) (hh : chkHs C.D hs S (h₀ :: l) = true) :
    PS X (.Try body (h₀ :: l) [] [] pos) (tSt C Wx fun ρ G => match fb ρ G with
      | .ex c p ρ1 G1 => evHs C.D.L c p ρ1 G1 hs
      | r => r) := by
  obtain ⟨cl, hcl, hw⟩ := snd_hs xs.xf so hs _ hh
  refine PS.mono (try_mix (tb := fun W => tSt C W fb) xs.stk xs.frm xs.xf.nd xs.xf.tk (fun W pn xe tk ow => hb _ _ (xs.tr tk ow) so.tr) hcl) fun D σ H ⟨ρ, Z, G, st, hr, h⟩ => ⟨ρ, Z, G, st, hr, ?_⟩
  cases e : fb ρ G with
  | nx ρ1 G1 => simp only [e] at h; exact h
  | rt w G1 => simp only [e] at h; exact h
  | bad => simp only [e] at h; exact h
  | ex c p ρ1 G1 =>
    simp only [e] at h
    exact fun Z' H' σ' d x st' ea => hw D Z' G1 H' c p ρ1 σ' d x.hr st' ea (okS.ext h x)
theorem sole_ok {v : Expr} (h : notCpr v = true) (t : Expr) (l : Nat) (env : Env) : swapsWithSole [t] v l env = pure false := by
  unfold swapsWithSole
  exact notCpr_ok h _ _ _
theorem asg_sub {a i : Expr} {p2 : Pos} (h : notSl i = true) (env : Env) : ∀ v, assign (.Subscript a i p2) env v = (do
      let ov ← holding [v] (eval a env)
      let iv ← holding [v, ov] (eval i env)
      standAt p2
      holding [v, ov, iv] (setItem ov iv v)
      release [v, ov, iv] []) := by
  intro v
  cases i <;> first | rfl | cases h
variable {lc : LcT} (hlc : ∀ (i : Nat) (a : Arguments) (b : Expr) (c : Scope), lc i a b c = true → C.lk i a b c)
include hlc
mutual
theorem sndS : ∀ (s : IS) (S : ScB) (st : Stmt), chkS lc C.D s S st = true → ∀ (X : Cx) (Wx : WX), XS C k X Wx → ScOk C S X → PS X st (tSt C Wx (exS C.D.L (run C.D.L C.D.fs k) s))
  | .never, S, st, h, X, Wx, xs, so => ⟨fun _ _ _ _ _ _ ⟨_, _, _, _, _, q⟩ => (show False from q).elim⟩
  | .asg i e, S, st, h, X, Wx, xs, so => by
    simp only [chkS] at h
    split at h
    · simp only [Bool.and_eq_true, Bool.or_eq_true] at h
      obtain ⟨⟨h1, h2⟩, h3⟩ := h
      obtain ⟨q1, q2, q3⟩ := stoB_ok so h1
      rcases h3 with h3 | h3
      · exact s_asg xs.xf.nd q1 q2 (sndE hlc e S _ h2 X Wx xs.xf so) (notCpr_ok h3 _ _ _) q3
      · split at h3
        · rename_i x p v pos own tg it t el
          simp only [chkE] at h2
          split at h2
          · rename_i elt tge iter ifs k' scope vp
            simp only [Bool.and_eq_true] at h2
            obtain ⟨⟨⟨⟨⟨⟨⟨g1, g2⟩, g3⟩, g4⟩, g5⟩, g6⟩, g7⟩, g8⟩ := h2
            obtain rfl := eq_of_beq g1
            simp only [swB, Bool.and_eq_true, Bool.not_eq_true'] at h3
            obtain ⟨⟨l1, l2⟩, l3⟩ := h3
            have hl := isL_ok so l1
            refine LcOk.set xs.xf (sndLc own tg it t el (fun X Wx xf so => sndI hlc it S tge iter g6 X Wx xf so) (fun X Wx xf so => sndE hlc el (S.blk scope) elt g8 X Wx xf so) ?_ g2 g3 g4 g5 X Wx xs.xf so) q1 hl (sw_true xs.knd hl l2 l3)
            split at g7
            · exact .inl ⟨rfl, by cases t <;> first | rfl | cases g7⟩
            · exact .inr ⟨_, rfl, fun X Wx xf so => sndT hlc t (S.blk scope) _ g7 X Wx xf so⟩
            · cases g7
          · cases h2
        · cases h3
    · cases h
  | .unp tg e, S, st, h, X, Wx, xs, so => by
    simp only [chkS] at h
    split at h
    · simp only [Bool.and_eq_true] at h
      obtain ⟨⟨⟨h1, h2⟩, h3⟩, h4⟩ := h
      obtain ⟨r1, r2, r3⟩ := sndG tg S _ h4 X Wx xs so
      rename_i ts kk p v pos
      refine s_unp xs.xf.K xs.xf.calm (sndE hlc e S _ h3 X Wx xs.xf so) r1 r2 r3 (sole_ok h1 _ _ _) ?_ rfl
      cases v <;> first | rfl | cases h2
    · cases h
  | .par i j a b, S, st, h, X, Wx, xs, so => by
    simp only [chkS] at h
    split at h
    · simp only [Bool.and_eq_true, decide_eq_true_eq] at h
      obtain ⟨⟨⟨⟨h1, h2⟩, h3⟩, h4⟩, h5⟩ := h
      have h3' := h3
      simp only [parB, Bool.and_eq_true, Bool.not_eq_true', decide_eq_false_iff_not] at h3'
      obtain ⟨⟨⟨⟨⟨⟨⟨p1, p2⟩, p3⟩, p4⟩, p5⟩, p6⟩, p7⟩, p8⟩ := h3'
      have hi := (congrArg (·[i]?) so.N).trans h1
      have hj := (congrArg (·[j]?) so.N).trans h2
      refine s_par xs.xf.calm xs.xf.nd hi hj (fun z => p4 ?_) (isL_ok so p1) (isL_ok so p2) p5 p6 (sndE hlc a S _ h4 X Wx xs.xf so) (sndE hlc b S _ h5 X Wx xs.xf so) (parB_ok xs.knd so h3) rfl
      subst z
      rw [hi] at hj
      exact Option.some.inj hj
    · cases h
  | .par3 i j l a b c, S, st, h, X, Wx, xs, so => by
    simp only [chkS] at h
    split at h
    · simp only [Bool.and_eq_true, decide_eq_true_eq] at h
      obtain ⟨⟨⟨⟨⟨⟨h1, h2⟩, h2z⟩, h3⟩, h4⟩, h5⟩, h6⟩ := h
      have h3' := h3
      simp only [par3B, Bool.and_eq_true, Bool.not_eq_true', decide_eq_false_iff_not] at h3'
      obtain ⟨⟨⟨⟨⟨⟨⟨⟨⟨⟨⟨⟨p1, p2⟩, p2z⟩, p3⟩, p3z⟩, p4⟩, p4b⟩, p4c⟩, p5⟩, p6⟩, p6z⟩, p7⟩, p8⟩ := h3'
      have hi := (congrArg (·[i]?) so.N).trans h1
      have hj := (congrArg (·[j]?) so.N).trans h2
      have hl := (congrArg (·[l]?) so.N).trans h2z
      refine s_par3 xs.xf.calm xs.xf.nd hi hj hl (fun z => p4 ?_) (fun z => p4b ?_) (fun z => p4c ?_) (isL_ok so p1) (isL_ok so p2) (isL_ok so p2z) p5 p6 p6z (sndE hlc a S _ h4 X Wx xs.xf so) (sndE hlc b S _ h5 X Wx xs.xf so) (sndE hlc c S _ h6 X Wx xs.xf so) (par3B_ok xs.knd so h3) rfl
      · subst z
        rw [hi] at hj
        exact Option.some.inj hj
      · subst z
        rw [hi] at hl
        exact Option.some.inj hl
      · subst z
        rw [hj] at hl
        exact Option.some.inj hl
    · cases h
  | .drop e, S, st, h, X, Wx, xs, so => by
    simp only [chkS] at h
    split at h
    · simp only [Bool.and_eq_true] at h
      exact s_drop (sndE hlc e S _ h.2 X Wx xs.xf so) (notCpr_ok h.1 _ _ _)
    · cases h
  | .append a e, S, st, h, X, Wx, xs, so => by
    simp only [chkS] at h
    split at h
    · simp only [Bool.and_eq_true, decide_eq_true_eq, Bool.not_eq_true'] at h
      obtain ⟨⟨⟨⟨⟨h1, h2⟩, h3⟩, h4⟩, h5⟩, h6⟩ := h
      subst h1
      exact s_append xs.xf.K (sndE hlc a S _ h5 X Wx xs.xf so) (sndE hlc e S _ h6 X Wx xs.xf so) h3 (notCall_ok h2 _ _ _) h4 rfl
    · cases h
  | .setL a i e, S, st, h, X, Wx, xs, so => by
    simp only [chkS] at h
    split at h
    · simp only [Bool.and_eq_true] at h
      obtain ⟨⟨⟨⟨h1, h2⟩, h3⟩, h4⟩, h5⟩ := h
      rename_i x y p2 v pos
      refine s_setL (sndE hlc a S _ h3 X Wx xs.xf so) (sndE hlc i S _ h4 X Wx xs.xf so) (sndE hlc e S _ h5 X Wx xs.xf so) (asg_sub h2 _) (sole_ok h1 _ _ _) ?_ rfl
      cases v <;> rfl
    · cases h
  | .setD a i e, S, st, h, X, Wx, xs, so => by
    simp only [chkS] at h
    split at h
    · simp only [Bool.and_eq_true] at h
      obtain ⟨⟨⟨⟨h1, h2⟩, h3⟩, h4⟩, h5⟩ := h
      have hu : X.A.units + 64 < cLine := xs.xf.room.units
      exact s_setD (by omega) (sndE hlc a S _ h3 X Wx xs.xf so) (sndE hlc i S _ h4 X Wx xs.xf so) (sndE hlc e S _ h5 X Wx xs.xf so) (notCpr_ok h1 _ _ _)
    · cases h
  | .setF a c j e, S, st, h, X, Wx, xs, so => by
    simp only [chkS] at h
    split at h
    · simp only [Bool.and_eq_true] at h
      obtain ⟨⟨⟨h1, h2⟩, h3⟩, h4⟩ := h
      obtain ⟨x, hx, hj⟩ := flB_ok h2
      exact s_setF xs.xf hx hj (sndE hlc a S _ h3 X Wx xs.xf so) (sndE hlc e S _ h4 X Wx xs.xf so) (notCpr_ok h1 _ _ _)
    · cases h
  | .ret e, S, st, h, X, Wx, xs, so => by
    simp only [chkS] at h
    split at h
    · exact s_ret (sndE hlc e S _ h X Wx xs.xf so)
    · cases h
  | .retN, S, st, h, X, Wx, xs, so => by
    simp only [chkS] at h
    split at h
    · exact s_retN
    · cases h
  | .cond t a b, S, st, h, X, Wx, xs, so => by
    simp only [chkS] at h
    split at h
    · simp only [Bool.and_eq_true] at h
      obtain ⟨⟨h1, h2⟩, h3⟩ := h
      exact s_cond (sndT hlc t S _ h1 X Wx xs.xf so) (sndSs a S _ h2 X Wx xs so) (sndSs b S _ h3 X Wx xs so)
    · cases h
  | .loop tg it b, S, st, h, X, Wx, xs, so => by
    simp only [chkS] at h
    split at h
    · simp only [Bool.and_eq_true] at h
      obtain ⟨⟨⟨h1, h2⟩, h3⟩, h4⟩ := h
      obtain ⟨g, hg, tk⟩ := snd_tg (C := C) (Wx := Wx) xs.xf.K xs.xf.calm xs.xf.nd so h2
      exact s_for xs.own xs.xf.calm (sndI hlc it S _ _ h3 X Wx xs.xf so) hg tk (sndSs b S _ h4 X Wx xs so) fun x => notSet_ok h1 _ _
    · cases h
  | .wh t b, S, st, h, X, Wx, xs, so => by
    simp only [chkS] at h
    split at h
    · simp only [Bool.and_eq_true] at h
      exact s_while xs.own (sndT hlc t S _ h.1 X Wx xs.xf so) (sndSs b S _ h.2 X Wx xs so)
    · cases h
  | .pass, S, st, h, X, Wx, xs, so => by
    simp only [chkS] at h
    split at h
    · exact s_pass
    · exact s_doc
    · cases h
  | .frz i, S, st, h, X, Wx, xs, so => by simp [chkS] at h
  | .raise0 c, S, st, h, X, Wx, xs, so => by
    simp only [chkS] at h
    split at h
    · simp only [Bool.and_eq_true, decide_eq_true_eq] at h
      obtain ⟨⟨h1, h2⟩, h3⟩ := h
      obtain ⟨g1, g2⟩ := glN_ok so h3
      exact s_raise0 xs.xf h1 h2 g1 g2
    · cases h
  | .raise1 c e, S, st, h, X, Wx, xs, so => by
    simp only [chkS] at h
    split at h
    · simp only [Bool.and_eq_true, decide_eq_true_eq, Bool.not_eq_true', decide_eq_false_iff_not] at h
      obtain ⟨⟨⟨⟨h1, h2⟩, h3⟩, h4⟩, h5⟩ := h
      obtain ⟨g1, g2⟩ := glN_ok so h3
      exact s_raise1 xs.xf h1 h2 g1 g2 h4 (sndE hlc e S _ h5 X Wx xs.xf so)
    · cases h
  | .tryx b hs, S, st, h, X, Wx, xs, so => by
    simp only [chkS] at h
    split at h
    · simp only [Bool.and_eq_true] at h
      exact s_try xs so (fun X Wx xs so => sndSs b S _ h.1 X Wx xs so) h.2
    · cases h
theorem sndSs : ∀ (ss : ISs) (S : ScB) (l : List Stmt), chkSs lc C.D ss S l = true → ∀ (X : Cx) (Wx : WX), XS C k X Wx → ScOk C S X → PSs X l (tSt C Wx (exSs C.D.L (run C.D.L C.D.fs k) ss))
  | .nil, S, l, h, X, Wx, xs, so => by
    simp only [chkSs] at h
    split at h
    · exact s_nil
    · cases h
  | .cons s r, S, l, h, X, Wx, xs, so => by
    simp only [chkSs] at h
    split at h
    · simp only [Bool.and_eq_true] at h
      exact s_cons (sndS s S _ h.1 X Wx xs so) (sndSs r S _ h.2 X Wx xs so)
    · cases h
theorem sndG : ∀ (tg : IG) (S : ScB) (l : List Expr), chkG lc C.D tg S l = true → ∀ (X : Cx) (Wx : WX), XS C k X Wx → ScOk C S X →
    PGs X l (tGs C Wx (evG C.D.L (run C.D.L C.D.fs k) tg)) ∧ (assignEach l X.env).length = tg.len ∧ (assignEach l X.env).findIdx? (·.1) = none
  | .nil, S, l, h, X, Wx, xs, so => by
    simp only [chkG] at h
    split at h
    · refine ⟨PGs.mono (s_gnil (Wx := Wx)) fun vs σ H Q ⟨D, ws, ρ, Z, G, hD, r, st, hr, z⟩ => ⟨D, ws, ρ, Z, G, hD, r, st, hr, ?_⟩, rfl, rfl⟩
      cases ws with
      | nil => exact z
      | cons _ _ => exact z
    · cases h
  | .nm i r, S, l, h, X, Wx, xs, so => by
    simp only [chkG] at h
    split at h
    · simp only [Bool.and_eq_true] at h
      obtain ⟨q1, q2, q3⟩ := stoB_ok so h.1
      obtain ⟨r1, r2, r3⟩ := sndG r S _ h.2 X Wx xs so
      rename_i x p l
      refine ⟨PGs.mono (s_gnm xs.xf.nd q1 q2 q3 r1 rfl) fun vs σ H Q ⟨D, ws, ρ, Z, G, hD, r, st, hr, z⟩ => ⟨D, ws, ρ, Z, G, hD, r, st, hr, ?_⟩, ?_, ?_⟩
      · cases ws with
        | nil => exact z
        | cons _ _ => exact z
      · show (assignEach l X.env).length + 1 = r.len + 1
        rw [r2]
      · show List.findIdx? _ ((false, assign (.Name x p) X.env) :: assignEach l X.env) = none
        rw [List.findIdx?_cons]
        simp [r3]
    · cases h
  | .sub a i r, S, l, h, X, Wx, xs, so => by
    simp only [chkG] at h
    split at h
    · simp only [Bool.and_eq_true] at h
      obtain ⟨⟨⟨h1, h2⟩, h3⟩, h4⟩ := h
      obtain ⟨r1, r2, r3⟩ := sndG r S _ h4 X Wx xs so
      rename_i x y p l
      refine ⟨PGs.mono (s_gsub (sndE hlc a S _ h2 X Wx xs.xf so) (sndE hlc i S _ h3 X Wx xs.xf so) (asg_sub h1 _) r1 rfl) fun vs σ H Q ⟨D, ws, ρ, Z, G, hD, r, st, hr, z⟩ => ⟨D, ws, ρ, Z, G, hD, r, st, hr, ?_⟩, ?_, ?_⟩
      · cases ws with
        | nil => exact z
        | cons _ _ => exact z
      · show (assignEach l X.env).length + 1 = r.len + 1
        rw [r2]
      · show List.findIdx? _ ((false, assign (.Subscript x y p) X.env) :: assignEach l X.env) = none
        rw [List.findIdx?_cons]
        simp [r3]
    · cases h
end
end
end PI
end

section
set_option autoImplicit false
set_option maxHeartbeats 1000000
/-! PI18: parameters. -/
namespace PI
open PySem L2
theorem step_in {names : List Str} {us ds : List Value} (nd : names.Nodup) : ∀ (l : List (Str × Value)) (S : List (Str × Value)), (∀ p ∈ l, (S.lookup p.1).isNone = true) → (l.map (·.1)).Nodup →
    (forIn l S fun (p : Str × Value) (r : List (Str × Value)) => if (r.lookup p.1).isNone = true then (pure (ForInStep.yield (r ++ [(p.1, p.2)])) : Sem _) else pure (ForInStep.yield r)) = pure (S ++ l)
  | [], S, _, _ => by simp
  | p :: l, S, h, hn => by
    have h1 := h p (List.mem_cons_self ..)
    rw [List.forIn_cons, if_pos h1]
    rw [pure_bind]
    dsimp only
    have hn' := List.nodup_cons.mp (by simpa using hn : (p.1 :: l.map (·.1)).Nodup)
    have := step_in (us := us) (ds := ds) nd l (S ++ [(p.1, p.2)]) (fun q hq => ?_) hn'.2
    · rw [this]; simp
    · have h2 := h q (List.mem_cons_of_mem _ hq)
      have ne : (q.1 == p.1) = false := beq_eq_false_iff_ne.mpr fun z => hn'.1 (z ▸ List.mem_map_of_mem hq)
      rw [List.lookup_append]
      simp only [List.lookup, ne, Option.isNone_iff_eq_none] at h2 ⊢
      rw [h2]; rfl
theorem bind_gen {fd : FuncData} {ps : List Str} {us its : List Value} {j : Nat} (h : argB fd.params ps = true) (hi : its.length ≤ ps.length) (hj : j ≤ its.length) (hu : us.length + j = ps.length) :
    ∃ k : Option (Array Value) → Sem (List (Str × Value)), bindArgs fd ⟨us, []⟩ = seqItems? fd.defaults >>= k ∧ ∀ o : Option (Array Value), (o.getD #[]).toList = its → k o = pure (ps.zip (us ++ its.drop (its.length - j))) := by
  simp only [argB, Bool.and_eq_true, decide_eq_true_eq, Option.isNone_iff_eq_none, List.isEmpty_iff] at h
  obtain ⟨⟨⟨⟨⟨h1, h2⟩, h3⟩, h4⟩, h5⟩, nd⟩ := h
  unfold bindArgs
  simp only [h1, h2, h3, h4, h5, List.map_nil, List.nil_append, List.append_nil, List.forIn_nil, pure_bind]
  refine ⟨_, rfl, fun o ho => ?_⟩
  simp only [ho]
  have e0 : its.length - ps.length = 0 := by omega
  have hS : ∀ (i : Nat) (x : Str), ps[i]? = some x → i < us.length → ((ps.zip us).lookup x).isNone = false := fun i x hx hlt => by
    rw [look_zip i x us[i] nd hx (List.getElem?_eq_getElem hlt)]
    rfl
  have hmiss : (ps.take (ps.length - its.length)).filter (fun n => ((ps.zip us).lookup n).isNone) = [] := by
    rw [List.filter_eq_nil_iff]
    intro x hx
    obtain ⟨i, hi⟩ := List.getElem?_of_mem hx
    have hlt : i < ps.length - its.length := by
      have := (List.getElem?_eq_some_iff.mp hi).1
      rw [List.length_take] at this
      omega
    rw [List.getElem?_take_of_lt hlt] at hi
    rw [hS i x hi (by omega)]
    exact Bool.false_ne_true
  simp only [e0, List.drop_zero]
  rw [if_neg (by simp; omega), hmiss]
  simp only [List.isEmpty_nil, Bool.not_true, Bool.false_eq_true, if_false]
  generalize hl : (ps.drop (ps.length - its.length)).zip its = l
  have hl2 : l.drop (its.length - j) = (ps.drop us.length).zip (its.drop (its.length - j)) := by
    rw [← hl, zip_drop, List.drop_drop]
    congr 2
    omega
  have e1 : (forIn l (ps.zip us) fun (p : Str × Value) (r : List (Str × Value)) => if (r.lookup p.1).isNone = true then (pure (ForInStep.yield (r ++ [(p.1, p.2)])) : Sem _) else pure (ForInStep.yield r)) = pure (ps.zip us ++ (ps.drop us.length).zip (its.drop (its.length - j))) := by
    rw [← List.take_append_drop (its.length - j) l, step_skip, hl2]
    · refine step_in (us := us) (ds := its) nd _ _ (fun p hp => ?_) ?_
      · obtain ⟨i, h1, _⟩ := mem_zip_at hp
        rw [look_out]
        · rfl
        · intro hm
          obtain ⟨i', h3⟩ := List.getElem?_of_mem hm
          have hlt : i' < us.length := by
            have := (List.getElem?_eq_some_iff.mp h3).1
            rw [List.length_take] at this
            omega
          rw [List.getElem?_take_of_lt hlt] at h3
          rw [List.getElem?_drop] at h1
          have := L2.nodup_ix nd h3 h1
          omega
      · rw [List.map_fst_zip (by rw [List.length_drop, List.length_drop]; omega)]
        exact nd.sublist (List.drop_sublist _ _)
    · intro p hp
      obtain ⟨i, hi⟩ := List.getElem?_of_mem hp
      have hlt : i < its.length - j := by
        have := (List.getElem?_eq_some_iff.mp hi).1
        rw [List.length_take] at this
        omega
      rw [List.getElem?_take_of_lt hlt, ← hl, List.getElem?_zip_eq_some, List.getElem?_drop] at hi
      exact hS _ _ hi.1 (by omega)
  rw [e1, pure_bind]
  have e2 : ps.zip us ++ (ps.drop us.length).zip (its.drop (its.length - j)) = ps.zip (us ++ its.drop (its.length - j)) := by
    have hlu : (ps.take us.length).length = us.length := by rw [List.length_take]; omega
    have := List.zip_append (l₁ := ps.take us.length) (r₁ := ps.drop us.length) (l₂ := us) (r₂ := its.drop (its.length - j)) hlu
    rw [List.take_append_drop] at this
    rw [this]
    congr 1
    have : ps.zip us = (ps.take us.length).zip us := by
      rw [List.zip_eq_zip_take_min]
      have hm : min ps.length us.length = us.length := by omega
      rw [hm, List.take_length]
    exact this
  rw [e2]
  congr 1
  refine filt_all (by rw [List.length_append, List.length_drop]; omega) fun i x v h1 h2 => look_zip i x v nd h1 h2
end PI
end

section
set_option autoImplicit false
set_option maxHeartbeats 1000000
/-! PI19: defs by their bodies, level by level. -/
namespace PI
open PySem L2 PySem.Spec PyProof.Rows
theorem guards_deeper {A : Around} {env : Env} (h : A.guards = some []) : (A.deeper env).guards = some [] := by
  first
    | exact h
    | (obtain ⟨a, b, c, d, e⟩ := A; exact h)
    | simpa [Around.deeper] using h
section
variable {C : Cn} {Wx : WX} {lc : LcT}
def okP (n : Nat) (p : Option W) : Bool := match p with
  | some w => W.blw n w
  | none => true
theorem ExcAt.trunc {Z Z' : Wit} {G G' : Hh} {H H' : Hp} {c : Nat} {p : Option W} {d : Option Addr} (x : Ext C Z G H Z' G' H') (e : ExcAt C Z' G' H' c p d) (hb : okP G.length p = true) : ExcAt C Z' (G'.take G.length) H' c p d := by
  cases p with
  | none => exact e
  | some w =>
    obtain ⟨dd, v, h1, h2, r⟩ := e
    exact ⟨dd, v, h1, h2, r.trunc x hb⟩
/-- from a call's end to the statement's -/
theorem okS_of_call {D : Ends} {Q : VK} {E : XK} {F : Fn} {Z : Wit} {G : Hh} {H : Hp} {r : RS} (hr : HRep C Z G H) (hn : ∀ σ H', Q .non H' → D.nx σ H') (ht : D.rt = Q)
    (h : okG C (fun cls d _ H => E cls d H) [] (Rep C) Z G H (match r with
      | .nx _ G' => fin F.keep G.length G .non G'
      | .rt w G' => fin F.keep G.length G w G'
      | .ex c p _ G' => finX F.keep G.length G c p G'
      | .bad => .bad) Q) : okS C (fun cls d _ H => E cls d H) D Z G H r := by
  have fine : ∀ (w : W) (G' : Hh), okG C (fun cls d _ H => E cls d H) [] (Rep C) Z G H (fin F.keep G.length G w G') Q → ∀ Z' H' v, Ext C Z G H Z' G' H' → Rep C Z' G'.length H' w v → Q v H' := fun w G' h Z' H' v x rv => by
    unfold fin at h
    cases hk : F.keep with
    | true =>
      rw [hk] at h
      exact h Z' H' v x rv
    | false =>
      rw [hk, if_neg Bool.false_ne_true] at h
      obtain ⟨hc, h⟩ := okG.if_inv h
      rw [Bool.and_eq_true] at hc
      exact h Z' H' v (Ext.trunc hr x hc.1) (rv.trunc x hc.2)
  cases r with
  | nx ρ G' => exact fun Z' H' σ' x _ => hn σ' H' (fine .non G' h Z' H' .non x .non)
  | rt w G' => exact fun Z' H' v x rv => by rw [ht]; exact fine w G' h Z' H' v x rv
  | bad => exact h
  | ex c p ρ G' =>
    intro Z' H' σ' d x _ ea
    have h : okG C (fun cls d _ H => E cls d H) [] (Rep C) Z G H (finX F.keep G.length G c p G') Q := h
    unfold finX at h
    cases hk : F.keep with
    | true =>
      rw [hk] at h
      exact h Z' H' d x ea
    | false =>
      rw [hk, if_neg Bool.false_ne_true] at h
      obtain ⟨hc, h⟩ := okG.if_inv h
      rw [Bool.and_eq_true] at hc
      exact h Z' H' d (Ext.trunc hr x hc.1) (ea.trunc x hc.2)
theorem st_start {Z : Wit} {n : Nat} {H : Hp} {ws : List W} {vs : List V} {N : List Str} (r : RepL C Z n H ws vs) : StRep C Z n H (ws.map some ++ List.replicate (N.length - ws.length) none) (L2.start N vs) := by
  refine ⟨by simp [L2.start, r.length], fun i w e => ?_⟩
  by_cases hi : i < ws.length
  · rw [List.getElem?_append_left (by simpa using hi), List.getElem?_map] at e
    cases q : ws[i]? with
    | none => rw [q] at e; cases e
    | some w' =>
      rw [q] at e
      cases e
      obtain ⟨v, hv, rv⟩ := r.get q
      refine ⟨v, ?_, rv⟩
      unfold L2.start
      rw [List.getElem?_append_left (by rw [List.length_map, ← r.length]; exact hi), List.getElem?_map, hv]
      rfl
  · rw [List.getElem?_append_right (by simpa using Nat.not_lt.mp hi)] at e
    rw [List.getElem?_replicate] at e
    split at e
    · cases e
    · cases e
def meOf (D : Dat) (i : Nat) : Option Nat := if D.mks.any (fun j => j == i) then some i else none
/-- the tables of those that make lambdas -/
structure TabOk (C : Cn) (mg : Str → Option Value) (base : Heap) : Prop where
  ex : ∀ m : Nat, (C.D.mks.any fun j => j == m) = true → ∃ c : Addr, (C.fd m).code = .ref c ∧ LamX.TabB base mg c (C.tp m) ∧ ((C.fd m).qualname ++ ".<locals>.") ++ "<lambda>" = C.tq m
def lc0 : LcT := fun _ _ _ _ => false
/-- what the text says of a lambda -/
structure LamTxt (C : Cn) : Prop where
  ex : ∀ (i : Nat) (ps : Arguments) (body : Expr) (sc : Scope), C.lk i ps body sc → ∃ (F : Fn) (N : List Str) (ie : IE), C.D.fs[i]? = some F ∧ F.body = .cons (.ret ie) .nil ∧ F.keep = true ∧ argB ps (C.pn i) = true ∧ FnScope N (C.pn i) sc ∧ F.n = N.length ∧ F.ps = (C.pn i).length ∧
    chkE lc0 C.D ie ⟨N, sc, fun _ => true, none⟩ body = true
/-- what the text says of a def -/
structure DefTxt (lc : LcT) (C : Cn) (K : PySem.W.Frag) (i : Nat) (F : Fn) : Prop where
  ex : ∃ (oc : Value) (od : Option Addr) (osl : Array (Option Value)) (name qual : Str) (params : Arguments) (body : List Stmt) (scope : Scope) (dV kV doc pm : Value) (an : Option Addr) (cdv ct : Value) (N : List Str),
    C.fd i = PySem.W.fnOf name qual params body scope dV kV doc pm an cdv ct ∧ K.lookup (C.fa i) = some ⟨oc, od, .func (C.fd i), osl⟩ ∧ PySem.W.codeIn K cdv qual = true ∧ FnScope N (C.pn i) scope ∧ F.n = N.length ∧ F.ps = (C.pn i).length ∧
    chkSs lc C.D F.body ⟨N, scope, fun _ => true, meOf C.D i⟩ body = true
/-- what the errors say -/
structure ErrOk (C : Cn) (P : Program) (w : World) (K : PySem.W.Frag) (mg : Str → Option Value) (base : Heap) : Prop where
  exb : ∀ (c : Nat) (x : Str), C.D.xn[c]? = some x → C.xf c = "" → ExcBare K (C.xa c)
  exi : ∀ (c : Nat) (x : Str), C.D.xn[c]? = some x → C.xf c ≠ "" → ExcInit P w K mg base (C.xa c) (C.xf c)
theorem fnG_zero {P : Program} {w : World} {K : PySem.W.Frag} {mg : Str → Option Value} {base : Heap} {i : Nat} {F : Fn} (hF : C.D.fs[i]? = some F) (h : DefTxt lc C K i F) : FnG C P w K mg base 0 i := by
  obtain ⟨oc, od, osl, name, qual, params, body, scope, dV, kV, doc, pm, an, cdv, ct, N, h1, h2, h3, h4, h5, h6, h7⟩ := h.ex
  refine ⟨fun F' hF' => ?_, fun A outer s H args us vs Q E hr hg e0 hb r ⟨ws, Z, G, _, _, q⟩ => (show False from q).elim⟩
  rw [hF] at hF'
  cases hF'
  exact h6
theorem fnG_succ {P : Program} {w : World} {K : PySem.W.Frag} {mg : Str → Option Value} {base : Heap} {i k : Nat} {F : Fn} (hF : C.D.fs[i]? = some F) (h : DefTxt lc C K i F) (hK : K = C.K) (fns : FnsOk C P w K mg base k) (lams : LamsOk C P w K mg base k) (tb : TabOk C mg base) (hlc : ∀ (i : Nat) (a : Arguments) (b : Expr) (c : Scope), lc i a b c = true → C.lk i a b c) (txt : TxtOk C w K mg) (ext : ExcTxt C w K mg) (er : ErrOk C P w K mg base) :
    FnG C P w K mg base (k + 1) i := by
  obtain ⟨oc, od, osl, name, qual, params, body, scope, dV, kV, doc, pm, an, cdv, ct, N, h1, h2, h3, S, h5, h6, h7⟩ := h.ex
  refine ⟨fun F' hF' => ?_, fun A outer s H args us vs Q E hr hg e0 hb r ⟨ws, Z, G, rw0, hrep, q⟩ => ?_⟩
  · rw [hF] at hF'
    cases hF'
    exact h6
  · -- the length of what is given
    simp only [run, hF] at q
    have hlw : ws.length = F.ps := by
      by_cases c : ws.length = F.ps
      · exact c
      · rw [if_neg c] at q; exact q.elim
    rw [if_pos hlw] at q
    have hl : vs.length = (C.pn i).length := by rw [← rw0.length, hlw, h6]
    have KX : K.In s.heap := e0.mod.kin.keeps fun b o e => (e0.bs b o e).1
    have lim : s.heap.NoLimit := e0.mod.nolimit.keeps fun b o e => (e0.bs b o e).1
    have kinds : ∀ y ∈ (C.pn i).zip us, scope.names.lookup y.1 = some .local ∨ (scope.names.lookup y.1 = some .cell ∧ ((cellsFrom (s.heap.objs.size + 1) scope.names []).lookup y.1).isSome = true) := fun ⟨n, v⟩ hy => by
      rcases S.par n (List.of_mem_zip hy).1 with z | z
      · exact .inl z
      · exact .inr ⟨z, PySem.W.cellsFrom_some _ _ _ (.inl z)⟩
    rw [h1] at h2 hb
    have roomD : Room (2 * k + 2) (A.deeper (envOfC qual scope s.heap.objs.size (C.fa i) cdv)) := Room.deeper (k := 2 * k + 2) (hr.mono (by omega)) _
    refine codeAny_call_function hr.depth (KX _ _ h2) rfl S.co S.gen rfl (PySem.W.codeRec_of KX h3) (hb _ _ _ _ ?_)
    refine wpAny_newFunctionEnv_cells S.kind kinds fun env he s1 x => ?_
    subst he
    refine ⟨lim.keeps x.toInCall.keep, codeAny_func ?_⟩
    have I : Inv (cxOf (L2.CX P w) P w K mg base N qual scope (C.fa i) cdv A outer s H E) [] (L2.start N vs) H s1 := inv_start S hr.hd e0 hl r x
    have xs : XS C k (cxOf (L2.CX P w) P w K mg base N qual scope (C.fa i) cdv A outer s H E) (fun cls d _ H => E cls d H) :=
      ⟨⟨hK, S.nd, rfl, roomD, guards_deeper hg, takes_of rfl rfl rfl rfl, fns, lams, txt, ext, er.exb, er.exi⟩, passes_of rfl, rfl, rfl, S.kind⟩
    have so : ScOk C ⟨N, scope, fun _ => true, meOf C.D i⟩ (cxOf (L2.CX P w) P w K mg base N qual scope (C.fa i) cdv A outer s H E) := ⟨rfl, rfl, fun _ _ => rfl, fun m hm => by
      have hm : (if C.D.mks.any (fun j => j == i) then some i else none) = some m := hm
      split at hm
      · rename_i hk
        cases hm
        obtain ⟨c, e1, e2, e3⟩ := tb.ex i hk
        rw [h1] at e1 e3
        exact ⟨c, e1, e2, e3⟩
      · cases hm⟩
    have ht := sndSs hlc F.body _ body h7 _ _ xs so
    refine wpAny_mono (ht.run [] s1 (L2.start N vs) H { nx := fun _ H' => Q .non H', rt := Q } I ⟨ws.map some ++ List.replicate (F.n - F.ps) none, Z, G, ?_, hrep, okS_of_call (F := F) hrep (fun _ _ z => z) rfl q⟩) (fun fl s' hs => ?_) fun e s' hs => hs
    · rw [h5, ← hlw]
      exact st_start rw0
    · have done : ∀ {σ' : L2.St} {H' : Hp} {v : V} {u : Value}, Inv (cxOf (L2.CX P w) P w K mg base N qual scope (C.fa i) cdv A outer s H E) [] σ' H' s' → RelV v u → Q v H' → CE outer P w H s Q u s' :=
        fun {σ' H' v u} J rv q => ⟨v, H', J.os, J.bare, J.base, J.hok, rv, q⟩
      cases fl with
      | ret u =>
        obtain ⟨v, σ', H', J, rv, q⟩ := hs
        exact done J rv q
      | next =>
        obtain ⟨σ', H', J, q⟩ := hs
        exact done (v := V.non) (u := Value.none) J rfl q
      | brk =>
        obtain ⟨_, _, _, q⟩ := hs
        exact False.elim q
      | cont =>
        obtain ⟨_, _, _, q⟩ := hs
        exact False.elim q
theorem lamG_zero {P : Program} {w : World} {K : PySem.W.Frag} {mg : Str → Option Value} {base : Heap} {i : Nat} : LamG C P w K mg base 0 i :=
  ⟨fun A outer s H us vs Q E f c q ps body sc hr hg e0 lk hf hc r ⟨ws, Z, G, _, _, q0⟩ => (show False from q0).elim⟩
theorem lamG_succ {P : Program} {w : World} {K : PySem.W.Frag} {mg : Str → Option Value} {base : Heap} {i k : Nat} (lt : LamTxt C) (hK : K = C.K) (fns : FnsOk C P w K mg base k) (lams : LamsOk C P w K mg base k) (txt : TxtOk C w K mg) (ext : ExcTxt C w K mg) (er : ErrOk C P w K mg base) :
    LamG C P w K mg base (k + 1) i := by
  refine ⟨fun A outer s H us vs Q E f c q ps body sc hr hg e0 lk hf hc r ⟨ws, Z, G, rw0, hrep, q0⟩ => ?_⟩
  obtain ⟨F, N, ie, hF, hb, hkp, h9, S, h5, h6, h7⟩ := lt.ex i ps body sc lk
  simp only [run, hF] at q0
  have hlw : ws.length = F.ps := by
    by_cases c : ws.length = F.ps
    · exact c
    · rw [if_neg c] at q0; exact q0.elim
  rw [if_pos hlw, hb, hkp] at q0
  have q1 : okG C (fun cls d _ H => E cls d H) [] (Rep C) Z G H (evE C.D.L (run C.D.L C.D.fs k) ie (ws.map some ++ List.replicate (F.n - F.ps) none) G) Q := by
    simp only [exSs, exS] at q0
    cases hE : evE C.D.L (run C.D.L C.D.fs k) ie (ws.map some ++ List.replicate (F.n - F.ps) none) G <;> (rw [hE] at q0; exact q0)
  have hl : vs.length = (C.pn i).length := by rw [← rw0.length, hlw, h6]
  have hlu : us.length + 0 = (C.pn i).length := by rw [Nat.add_zero, ← r.length, hl]
  obtain ⟨⟨pm, ctv, ho⟩, _, _⟩ := e0.hok f _ hf
  obtain ⟨⟨oc, vs', tt, hoc, hdc, hvc⟩, _, _⟩ := e0.hok c _ hc
  have lim : s.heap.NoLimit := e0.mod.nolimit.keeps fun b o e => (e0.bs b o e).1
  have kinds : ∀ y ∈ (C.pn i).zip us, sc.names.lookup y.1 = some .local ∨ (sc.names.lookup y.1 = some .cell ∧ ((cellsFrom (s.heap.objs.size + 1) sc.names []).lookup y.1).isSome = true) := fun ⟨n, v⟩ hy => by
    rcases S.par n (List.of_mem_zip hy).1 with z | z
    · exact .inl z
    · exact .inr ⟨z, PySem.W.cellsFrom_some _ _ _ (.inl z)⟩
  have roomD : Room (2 * k + 2) (A.deeper (envOfC q sc s.heap.objs.size f (.ref c))) := Room.deeper (k := 2 * k + 2) (hr.mono (by omega)) _
  refine PySem.W.kla_callFunE hr.depth ho rfl S.co S.gen rfl ⟨c, oc, vs', tt, rfl, hoc, hdc, hvc⟩ ?_
  obtain ⟨kk, e1, e2⟩ := bind_gen (fd := PySem.W.kla_fn "<lambda>" q ps body sc [] pm (.ref c) ctv) (us := us) (its := []) (j := 0) h9 (Nat.zero_le _) (Nat.le_refl _) hlu
  rw [e1]
  have e3 : (seqItems? Value.none >>= kk) = kk none := by first | rfl | (simp [seqItems?])
  rw [e3, e2 none rfl]
  have e4 : us ++ List.drop (List.length ([] : List Value) - 0) [] = us := by simp
  rw [e4]
  refine wpAny_pure (wpAny_newFunctionEnv_cells S.kind kinds fun env he s1 x => ?_)
  subst he
  refine ⟨lim.keeps x.toInCall.keep, PySem.W.kla_codeExpr ?_⟩
  have I : Inv (cxOf (L2.CX P w) P w K mg base N q sc f (.ref c) A outer s H E) [] (L2.start N vs) H s1 := inv_start S hr.hd e0 hl r x
  have xf : XF C k (cxOf (L2.CX P w) P w K mg base N q sc f (.ref c) A outer s H E) (fun cls d _ H => E cls d H) :=
    ⟨hK, S.nd, rfl, roomD, guards_deeper hg, takes_of rfl rfl rfl rfl, fns, lams, txt, ext, er.exb, er.exi⟩
  have so : ScOk C ⟨N, sc, fun _ => true, none⟩ (cxOf (L2.CX P w) P w K mg base N q sc f (.ref c) A outer s H E) := ⟨rfl, rfl, fun _ _ => rfl, fun m hm => by cases (show (none : Option Nat) = some m from hm)⟩
  have ht := sndE (lc := lc0) (fun _ _ _ _ z => by cases (show false = true from z)) ie _ body h7 _ _ xf so
  refine wpAny_mono (ht.run [] s1 (L2.start N vs) H Q I ⟨ws.map some ++ List.replicate (F.n - F.ps) none, Z, G, by rw [h5, ← hlw]; exact st_start rw0, hrep, q1.wish fun _ _ _ z => z⟩) (fun v s' hs => ?_) fun e s' hs => hs
  obtain ⟨v', H', J, rv, qq⟩ := hs
  exact ⟨v', H', J.os, J.bare, J.base, J.hok, rv, qq⟩
theorem all_ok {P : Program} {w : World} {K : PySem.W.Frag} {mg : Str → Option Value} {base : Heap} (h : ∀ (i : Nat) (F : Fn), C.D.fs[i]? = some F → lamB C.D i = false → DefTxt lc C K i F) (lt : LamTxt C) (hK : K = C.K) (tb : TabOk C mg base)
    (hlc : ∀ (i : Nat) (a : Arguments) (b : Expr) (c : Scope), lc i a b c = true → C.lk i a b c) (txt : TxtOk C w K mg) (ext : ExcTxt C w K mg) (er : ErrOk C P w K mg base) : ∀ k : Nat, FnsOk C P w K mg base k ∧ LamsOk C P w K mg base k
  | 0 => ⟨fun i F hF hL => fnG_zero hF (h i F hF hL), fun _ _ _ _ => lamG_zero⟩
  | k + 1 => by
    obtain ⟨a, b⟩ := all_ok h lt hK tb hlc txt ext er k
    exact ⟨fun i F hF hL => fnG_succ hF (h i F hF hL) hK a b tb hlc txt ext er, fun _ _ _ _ => lamG_succ lt hK a b txt ext er⟩
end
end PI
end

section
set_option autoImplicit false
set_option maxHeartbeats 1000000
/-! PI20: what the top has left, asked by a yes or a no. -/
namespace PI
open PySem L2 PySem.Spec PyProof.Rows PySem.W
def adrG (K : Frag) (x : Str) : Addr := match nsIn K mainGlobals x with
  | some (some (.ref a)) => a
  | _ => 0
def adrM (K : Frag) (D : Dat) (i : Nat) : Addr := match D.md.find? fun p => p.1 == i with
  | some (_, c, m) => (match findIn K (.ref (adrG K ((D.cn[c]?).getD ""))) m with
    | some (some (.ref a)) => a
    | _ => 0)
  | none => 0
def adrF (K : Frag) (D : Dat) (i : Nat) : Addr := match D.gn[i]? with
  | some x => if x = "" then adrM K D i else adrG K x
  | none => 0
def fdAt (K : Frag) (a : Addr) : FuncData := match K.lookup a with
  | some ⟨_, _, .func fd, _⟩ => fd
  | _ => default
def nnAt (D : Dat) (i : Nat) : List Str := (D.nn[i]?).getD []
def scB (N ps : List Str) (sc : Scope) : Bool := decide (sc.kind = .function) && !sc.isCoroutine && !sc.isGenerator && decide N.Nodup && decide (N.take ps.length = ps) &&
  ps.all (fun x => match sc.names.lookup x with
    | some .local => true
    | some .cell => true
    | _ => false) && sc.names.all fun y => !decide (y.2 = .free)
def lc1 (D : Dat) : LcT := fun i ps body sc => match D.fs[i]? with
  | some F => F.keep && argB ps ((D.pn[i]?).getD []) && scB (nnAt D i) ((D.pn[i]?).getD []) sc && decide (F.n = (nnAt D i).length) && decide (F.ps = ((D.pn[i]?).getD []).length) && (match F.body with
    | .cons (.ret ie) .nil => chkE lc0 D ie ⟨nnAt D i, sc, fun _ => true, none⟩ body
    | _ => false)
  | none => false
def tabAt (K : Frag) (D : Dat) (m : Nat) : Addr × Addr := match D.gn[m]? with
  | some x => (tabIn K x).getD (0, 0)
  | none => (0, 0)
def mkC (K : Frag) (D : Dat) : Cn := ⟨K, D, adrF K D, fun i => fdAt K (adrF K D i), fun c => adrG K ((D.cn[c]?).getD ""), fun c => adrG K ((D.xn[c]?).getD ""), fun i a b c => lc1 D i a b c = true, fun m => (tabAt K D m).2,
  fun m => ((fdAt K (adrF K D m)).qualname ++ ".<locals>.") ++ "<lambda>"⟩
/- a constant of the module is this value -/
mutual
def cstB (K : Frag) (w : W) (u : Value) : Bool := match w with
  | .non => match u with
    | .none => true
    | _ => false
  | .bl b => match u with
    | .bool c => b == c
    | _ => false
  | .int i => match u with
    | .int j _ => i == j
    | _ => false
  | .str x => match u with
    | .str y _ => decide (x = y)
    | _ => false
  | .tup xs => match u with
    | .ref a => (match K.lookup a with
      | some ⟨.type t, _, .seq its _, _⟩ => t == "tuple" && decide (its.size ≤ 1000) && cstBs K xs its.toList
      | _ => false)
    | _ => false
  | _ => false
def cstBs (K : Frag) (ws : List W) (us : List Value) : Bool := match ws with
  | [] => us.isEmpty
  | w :: ws => match us with
    | u :: us => cstB K w u && cstBs K ws us
    | [] => false
end
section
variable {C : Cn}
mutual
theorem cstB_ok : ∀ (w : W) (u : Value), cstB C.K w u = true → ∃ v, RelV v u ∧ ∀ Z n H, Rep C Z n H w v
  | .non, u, h => by
    cases u <;> simp [cstB] at h
    exact ⟨.non, rfl, fun _ _ _ => .non⟩
  | .bl b, u, h => by
    cases u <;> simp [cstB] at h
    subst h
    exact ⟨.bl _, rfl, fun _ _ _ => .bl _⟩
  | .int b, u, h => by
    cases u <;> simp [cstB] at h
    subst h
    exact ⟨.int _, ⟨_, rfl⟩, fun _ _ _ => .int _⟩
  | .str b, u, h => by
    cases u <;> simp [cstB] at h
    subst h
    exact ⟨.str _, ⟨_, rfl⟩, fun _ _ _ => .str _⟩
  | .tup xs, u, h => by
    cases u with
    | ref a =>
      simp only [cstB] at h
      split at h
      · rename_i t dd its n sl hl
        simp only [Bool.and_eq_true, decide_eq_true_eq] at h
        obtain ⟨⟨h1, h2⟩, h3⟩ := h
        obtain rfl := eq_of_beq h1
        obtain ⟨vs, r1, r2⟩ := cstBs_ok xs its.toList h3
        exact ⟨.ref a, rfl, fun Z n H => .tup (.inr ⟨_, its, _, hl, rfl, rfl, by rw [sizeLine_eq]; omega, r1⟩) (r2 Z n H)⟩
      · cases h
    | _ => simp [cstB] at h
  | .lst _, u, h => by simp [cstB] at h
  | .ref _, u, h => by simp [cstB] at h
  | .fn _, u, h => by simp [cstB] at h
  | .lam _, u, h => by simp [cstB] at h
theorem cstBs_ok : ∀ (ws : List W) (us : List Value), cstBs C.K ws us = true → ∃ vs, Vals vs us ∧ ∀ Z n H, RepL C Z n H ws vs
  | [], us, h => by
    cases us with
    | nil => exact ⟨[], .nil, fun _ _ _ => .nil⟩
    | cons _ _ => simp [cstBs] at h
  | w :: ws, us, h => by
    cases us with
    | nil => simp [cstBs] at h
    | cons u us =>
      simp only [cstBs, Bool.and_eq_true] at h
      obtain ⟨v, r1, r2⟩ := cstB_ok w u h.1
      obtain ⟨vs, r3, r4⟩ := cstBs_ok ws us h.2
      exact ⟨v :: vs, .cons r1 r3, fun Z n H => .cons (r2 Z n H) (r4 Z n H)⟩
end
/-! ### a def -/
theorem scB_ok {N ps : List Str} {sc : Scope} (h : scB N ps sc = true) : FnScope N ps sc := by
  simp only [scB, Bool.and_eq_true, decide_eq_true_eq, Bool.not_eq_true', List.all_eq_true, decide_eq_false_iff_not] at h
  obtain ⟨⟨⟨⟨⟨⟨h1, h2⟩, h3⟩, h4⟩, h5⟩, h6⟩, h7⟩ := h
  refine ⟨h1, h2, h3, h4, h5, fun x hx => ?_, h7⟩
  have := h6 x hx
  split at this
  · exact .inl (by assumption)
  · exact .inr (by assumption)
  · cases this
def dflOf (K : Frag) (v : Value) : Option (List Value) := match v with
  | .none => some []
  | .ref T => match K.lookup T with
    | some ⟨_, _, .seq its _, _⟩ => some its.toList
    | _ => none
  | _ => none
/-- the def i stands so -/
def defB (C : Cn) (i : Nat) (F : Fn) : Bool := match C.K.lookup (C.fa i) with
  | some ⟨_, _, .func fd, _⟩ => (match fd.body with
    | .stmts body => decide (fd.globals = mainGlobals) && fd.closure.isEmpty && decide (fd.builtins = builtinsNs) && codeIn C.K fd.code fd.qualname && scB (nnAt C.D i) (C.pn i) fd.scope && decide (F.n = (nnAt C.D i).length) &&
        decide (F.ps = (C.pn i).length) && chkSs (lc1 C.D) C.D F.body ⟨nnAt C.D i, fd.scope, fun _ => true, meOf C.D i⟩ body && argB fd.params (C.pn i) && (match dflOf C.K fd.defaults, C.D.dfs[i]? with
        | some its, some dfs => decide (its.length ≤ (C.pn i).length) && dfs.all fun ds => decide (ds.length ≤ its.length) && cstBs C.K ds (its.drop (its.length - ds.length))
        | _, _ => false)
    | _ => false)
  | _ => false
theorem defB_ok {D : Dat} {K : Frag} {i : Nat} {F : Fn} (h : defB (mkC K D) i F = true) : DefTxt (lc1 D) (mkC K D) K i F ∧
    (∀ (dfs : List (List W)) (ds : List W), D.dfs[i]? = some dfs → ds ∈ dfs → ∃ dsv dvs, Binds K ((mkC K D).fd i) ((mkC K D).pn i) dsv ∧ Vals dvs dsv ∧ ∀ Z n H, RepL (mkC K D) Z n H ds dvs) ∧ KwOk K ((mkC K D).fd i) ((mkC K D).pn i) := by
  unfold defB at h
  split at h
  · rename_i oc od fd osl hl
    split at h
    · rename_i body hbody
      simp only [Bool.and_eq_true, decide_eq_true_eq, List.isEmpty_iff] at h
      obtain ⟨⟨⟨⟨⟨⟨⟨⟨⟨h1, h2⟩, h3⟩, h4⟩, h5⟩, h6⟩, h7⟩, h8⟩, h9⟩, h10⟩ := h
      have hl : K.lookup ((mkC K D).fa i) = some ⟨oc, od, .func fd, osl⟩ := hl
      have efd : (mkC K D).fd i = fd := by
        show fdAt K ((mkC K D).fa i) = fd
        unfold fdAt
        rw [hl]
      refine ⟨⟨oc, od, osl, fd.name, fd.qualname, fd.params, body, fd.scope, fd.defaults, fd.kwdefaults, fd.doc, fd.pyModule, fd.annotations, fd.code, fd.closureTuple, nnAt D i, ?_, by rw [efd]; exact hl, h4, scB_ok h5, h6, h7, h8⟩, fun dfs ds hdf hds => ?_, fun n ks pm hw s us ws KX hn hz => ?_⟩
      · rw [efd]
        obtain ⟨a1, a2, a3, a4, a5, a6, a7, a8, a9, a10, a11, a12, a13, a14, a15⟩ := fd
        simp only at h1 h2 h3 hbody
        subst h1 h2 h3 hbody
        rfl
      · rw [efd]
        have hdf' : (mkC K D).D.dfs[i]? = some dfs := hdf
        rw [hdf'] at h10
        split at h10
        · rename_i its dfs' hits hd'
          cases hd'
          simp only [Bool.and_eq_true, decide_eq_true_eq, List.all_eq_true] at h10
          obtain ⟨g1, g2⟩ := h10
          obtain ⟨g3, g4⟩ := g2 ds hds
          obtain ⟨dvs, r1, r2⟩ := cstBs_ok (C := mkC K D) ds _ g4
          refine ⟨its.drop (its.length - ds.length), dvs, fun s us KX hlen => ?_, r1, r2⟩
          have hdl : (its.drop (its.length - ds.length)).length = ds.length := by rw [List.length_drop]; omega
          rw [List.length_append, hdl] at hlen
          obtain ⟨k, e1, e2⟩ := bind_gen (us := us) (its := its) (j := ds.length) h9 g1 g3 hlen
          refine BindsTo.of_looks fun M => ?_
          rw [e1]
          unfold dflOf at hits
          split at hits
          · rename_i hn
            cases hits
            rw [hn]
            have e3 : (seqItems? Value.none >>= k) = k none := by first | rfl | (simp [seqItems?])
            rw [e3]
            exact PySem.W.Looks.of_pure (e2 none rfl)
          · rename_i T hT
            rw [hT]
            split at hits
            · rename_i oc' od' its' n' sl' lT
              cases hits
              exact looks_items KX lT rfl (PySem.W.Looks.of_pure (e2 (some its') rfl))
            · cases hits
          · cases hits
        · cases h10
      · rw [efd]
        simp only [kwB, Bool.and_eq_true, decide_eq_true_eq, List.all_eq_true] at hw
        obtain ⟨⟨⟨⟨w1, w2⟩, w3⟩, w4⟩, w5⟩ := hw
        subst hn
        obtain ⟨k, e1, e2⟩ := bind_pick (us := us) (ws := ws) h9 w1 hz w2 w3 w4 w5
        split at h10
        · rename_i its dfs' hits hd'
          refine BindsTo.of_looks fun M => ?_
          rw [e1]
          unfold dflOf at hits
          split at hits
          · rename_i hn
            rw [hn]
            have e3 : (seqItems? Value.none >>= k) = k none := by first | rfl | (simp [seqItems?])
            rw [e3]
            exact PySem.W.Looks.of_pure (e2 none)
          · rename_i T hT
            rw [hT]
            split at hits
            · rename_i oc' od' its' n' sl' lT
              exact looks_items KX lT rfl (PySem.W.Looks.of_pure (e2 (some its')))
            · cases hits
          · cases hits
        · cases h10
    · cases h
  · cases h
theorem lam_txt {K : Frag} {D : Dat} : LamTxt (mkC K D) := ⟨fun i ps body sc h => by
  have h : lc1 D i ps body sc = true := h
  unfold lc1 at h
  split at h
  · rename_i F hF
    simp only [Bool.and_eq_true, decide_eq_true_eq] at h
    obtain ⟨⟨⟨⟨⟨h1, h2⟩, h3⟩, h4⟩, h5⟩, h6⟩ := h
    split at h6
    · rename_i ie hb
      exact ⟨F, nnAt D i, ie, hF, hb, h1, h2, scB_ok h3, h4, h5, h6⟩
    · cases h6
  · cases h⟩
/-- those that make lambdas, and their tables -/
def mkB (K : Frag) (D : Dat) : Bool := decide (D.mks.map fun m => (tabAt K D m).2).Nodup && D.mks.all fun m => (match D.gn[m]? with
    | some x => (match tabIn K x with
      | some (c, P) => (match (fdAt K (adrF K D m)).code with
        | .ref c' => c' == c
        | _ => false) && (K.lookup P).isNone && codeHdIn K c P && !decide (mainGlobals = P)
      | none => false)
    | none => false)
theorem mkB_ok {K : Frag} {D : Dat} (h : mkB K D = true) : (D.mks.map fun m => (tabAt K D m).2).Nodup ∧ ∀ m ∈ D.mks, ∃ x c, D.gn[m]? = some x ∧ tabIn K x = some (c, (mkC K D).tp m) ∧ ((mkC K D).fd m).code = .ref c ∧ K.lookup ((mkC K D).tp m) = none ∧ codeHdIn K c ((mkC K D).tp m) = true ∧ mainGlobals ≠ (mkC K D).tp m := by
  simp only [mkB, Bool.and_eq_true, decide_eq_true_eq, List.all_eq_true] at h
  refine ⟨h.1, fun m hm => ?_⟩
  have q := h.2 m hm
  split at q
  · rename_i x hx
    split at q
    · rename_i c P ht
      simp only [Bool.and_eq_true, Option.isNone_iff_eq_none, Bool.not_eq_true', decide_eq_false_iff_not] at q
      obtain ⟨⟨⟨q1, q2⟩, q3⟩, q4⟩ := q
      have e : (mkC K D).tp m = P := by
        show (tabAt K D m).2 = P
        unfold tabAt
        simp only [hx, ht, Option.getD]
      split at q1
      · rename_i c' hc
        obtain rfl := eq_of_beq q1
        rw [e]
        exact ⟨x, c', hx, ht, hc, q2, q3, q4⟩
      · cases q1
    · cases q
  · cases q
end
end PI
end

section
set_option autoImplicit false
set_option maxHeartbeats 1000000
/-! PI21: the rest of what the top has left. -/
namespace PI
open PySem L2 PySem.Spec PyProof.Rows PySem.W
def allI {α : Type} (l : List α) (p : Nat → α → Bool) : Bool := (List.range l.length).all fun i => match l[i]? with
  | some x => p i x
  | none => true
theorem allI_ok {α : Type} {l : List α} {p : Nat → α → Bool} (h : allI l p = true) {i : Nat} {x : α} (e : l[i]? = some x) : p i x = true := by
  have := List.all_eq_true.mp h i (List.mem_range.mpr (List.getElem?_eq_some_iff.mp e).1)
  rw [e] at this
  exact this
def isAt (K : Frag) (x : Str) (a : Addr) : Bool := decide (nsIn K mainGlobals x = some (some (.ref a)))
def gfB (C : Cn) : Bool := allI C.D.gn fun i x => decide (x = "") || (isAt C.K x (C.fa i) && keepIn C.K (.ref (C.fa i)))
def bsB (C : Cn) : Bool := C.D.bs.all fun x => decide (nsIn C.K mainGlobals x = some none)
def gvB (C : Cn) : Bool := allI C.D.gv fun k x => match nsIn C.K mainGlobals x, C.D.L.gs[k]? with
  | some (some u), some w => cstB C.K w u
  | _, _ => false
def fsB (C : Cn) : Bool := decide (C.D.dfs.length ≤ C.D.fs.length) && allI C.D.fs fun i F => if lamB C.D i then (match C.D.dfs[i]? with
  | some l => l.isEmpty
  | none => true) else defB C i F
def clB (C : Cn) : Bool := allI C.D.cn fun c x => isAt C.K x (C.ca c) && plainGet C.K (C.ca c) Str.empty && hasDictIn C.K (C.ca c) && plainOver C.K (C.ca c) && decide (findIn C.K (.ref (C.ca c)) "__setattr__" = some (some (.builtin "object.__setattr__"))) &&
  (C.fl c).all (fun f => decide (findIn C.K (.ref (C.ca c)) f = some none)) && decide ((C.fl c).length < 1000)
def mtB (C : Cn) : Bool := allI C.D.mn fun m x => match C.D.L.ms[m]? with
  | some ci => decide (ci.1 < C.D.cn.length) && decide (findIn C.K (.ref (C.ca ci.1)) x = some (some (.ref (C.fa ci.2)))) && isFn C.K (.ref (C.fa ci.2)) && keepIn C.K (.ref (C.fa ci.2)) && !(C.fl ci.1).contains x
  | none => false
def inB (C : Cn) : Bool := allI C.D.L.inits fun c kn => makesIn C.K (C.ca c) && decide (findIn C.K (.ref (C.ca c)) "__init__" = some (some (.ref (C.fa kn.1)))) && isFn C.K (.ref (C.fa kn.1)) && keepIn C.K (.ref (C.ca c)) && decide (kn.2 = (C.fl c).length) && decide (C.fl c).Nodup
def esB : List DictEntry → List (Str × Int) → Bool
  | [], [] => true
  | e :: es, kv :: r => (match e.key with
    | .str y _ => decide (y = kv.1)
    | _ => false) && (match e.val with
    | .int i _ => i == kv.2
    | _ => false) && esB es r
  | _, _ => false
def dictAt (K : Frag) (x : Str) : List DictEntry := match nsIn K mainGlobals x with
  | some (some (.ref d)) => (match K.lookup d with
    | some ⟨_, _, .dict es _, _⟩ => es.toList
    | _ => [])
  | _ => []
def dcB (C : Cn) : Bool := allI C.D.dn fun k x => match nsIn C.K mainGlobals x with
  | some (some (.ref d)) => !(d == sysModules) && (match C.K.lookup d with
    | some ⟨.type t, none, .dict es _, sl⟩ => t == "dict" && sl.toList.isEmpty && (match C.D.L.dicts[k]? with
      | some kv => esB es.toList kv
      | none => false)
    | _ => false)
  | _ => false
section
variable {C : Cn}
theorem es_find {y : Str} : ∀ {es : List DictEntry} {kv : List (Str × Int)}, esB es kv = true → (es.any (·.refKey)) = false ∧ match kv.find? fun p => decide (p.1 = y) with
    | some p => ∃ e t, es.find? (·.key.isStr y) = some e ∧ e.val = .int p.2 t
    | none => es.find? (·.key.isStr y) = none
  | [], [], _ => ⟨rfl, rfl⟩
  | [], _ :: _, h => by simp [esB] at h
  | _ :: _, [], h => by simp [esB] at h
  | e :: es, kv :: r, h => by
    simp only [esB, Bool.and_eq_true] at h
    obtain ⟨⟨h1, h2⟩, h3⟩ := h
    obtain ⟨g1, g2⟩ := es_find (y := y) h3
    cases hk : e.key with
    | str x t =>
      rw [hk] at h1
      have h1 : x = kv.1 := of_decide_eq_true h1
      cases hv : e.val with
      | int i t' =>
        rw [hv] at h2
        have h2 : i = kv.2 := eq_of_beq h2
        have er : e.refKey = false := by
          unfold DictEntry.refKey
          rw [hk]
        refine ⟨by rw [List.any_cons, er, g1]; rfl, ?_⟩
        have es_ : e.key.isStr y = decide (kv.1 = y) := by
          rw [hk, ← h1]
          by_cases q : x = y
          · subst q; simp [Value.isStr]
          · have : (x == y) = false := beq_eq_false_iff_ne.mpr q
            simp [Value.isStr, q, this]
        by_cases q : kv.1 = y
        · rw [List.find?_cons, List.find?_cons, es_]
          simp only [q, decide_true]
          exact ⟨e, t', rfl, by rw [hv, h2]⟩
        · rw [List.find?_cons, List.find?_cons, es_]
          simp only [q, decide_false]
          exact g2
      | _ => rw [hv] at h2; cases h2
    | _ => rw [hk] at h1; cases h1
def txtB (C : Cn) : Bool := gfB C && bsB C && gvB C && fsB C && clB C && mtB C && inB C && dcB C
theorem txt_ok {K : Frag} {D : Dat} {w : World} {mg : Str → Option Value} {h : Heap} (KX : K.In h) (G : h.Ns mainGlobals mg) (hb : txtB (mkC K D) = true) (lit : ∀ x ∈ D.dn, KeysLit w.params (dictAt K x)) :
    TxtOk (mkC K D) w K mg ∧ ∀ (i : Nat) (F : Fn), D.fs[i]? = some F → lamB D i = false → DefTxt (lc1 D) (mkC K D) K i F := by
  simp only [txtB, Bool.and_eq_true] at hb
  obtain ⟨⟨⟨⟨⟨⟨⟨h1, h2⟩, h3⟩, h4⟩, h5⟩, h6⟩, h7⟩, h8⟩ := hb
  simp only [fsB, Bool.and_eq_true, decide_eq_true_eq] at h4
  obtain ⟨h4, h4'⟩ := h4
  have h4d : ∀ {i : Nat} {F : Fn}, D.fs[i]? = some F → lamB D i = false → defB (mkC K D) i F = true := fun {i F} hF hL => by
    have q := allI_ok h4' hF
    have hL : lamB (mkC K D).D i = false := hL
    rw [hL, if_neg Bool.false_ne_true] at q
    exact q
  have at_ : ∀ {x : Str} {a : Addr}, isAt K x a = true → mg x = some (.ref a) := fun e => mg_of KX G (of_decide_eq_true e)
  have hcl : ∀ (c : Nat) (x : Str), D.cn[c]? = some x → Cls K ((mkC K D).ca c) ∧ mg x = some (.ref ((mkC K D).ca c)) ∧ (∀ f, f ∈ (mkC K D).fl c → NoAttr K ((mkC K D).ca c) f) ∧ ((mkC K D).fl c).length < 1000 := fun c x hx => by
    have q := allI_ok h5 hx
    simp only [Bool.and_eq_true, decide_eq_true_eq, List.all_eq_true] at q
    obtain ⟨⟨⟨⟨⟨⟨q1, q2⟩, q3⟩, q4⟩, q5⟩, q6⟩, q7⟩ := q
    exact ⟨⟨q2, q3, q4, q5⟩, at_ q1, fun f hf => q6 f hf, q7⟩
  refine ⟨⟨fun i x hx hne => ?_, fun x hx => ?_, fun k x hx => ?_, fun i dfs ds hd hds => ?_, hcl, fun m x hx => ?_, fun c k n hi => ?_, fun i F hF hL => (defB_ok (h4d hF hL)).2.2, fun k x hx => ?_⟩, fun i F hF hL => (defB_ok (h4d hF hL)).1⟩
  · have q := allI_ok h1 hx
    simp only [Bool.or_eq_true, decide_eq_true_eq, Bool.and_eq_true] at q
    rcases q with q | q
    · exact absurd q hne
    · exact ⟨at_ q.1, q.2⟩
  · exact mg_none_of KX G (of_decide_eq_true (List.all_eq_true.mp h2 x hx))
  · have q := allI_ok h3 hx
    split at q
    · rename_i u wv hu hw
      obtain ⟨v, r1, r2⟩ := cstB_ok (C := mkC K D) wv u q
      exact ⟨v, u, wv, mg_of KX G hu, r1, hw, r2⟩
    · cases q
  · have hlt : i < D.fs.length := Nat.lt_of_lt_of_le (List.getElem?_eq_some_iff.mp hd).1 h4
    cases hL : lamB D i with
    | false => exact (defB_ok (h4d (List.getElem?_eq_getElem hlt) hL)).2.1 dfs ds hd hds
    | true =>
      exfalso
      have q := allI_ok h4' (List.getElem?_eq_getElem hlt)
      have hL : lamB (mkC K D).D i = true := hL
      have hd' : (mkC K D).D.dfs[i]? = some dfs := hd
      rw [hL, if_pos rfl, hd'] at q
      obtain rfl := List.isEmpty_iff.mp q
      cases hds
  · have q := allI_ok h6 hx
    split at q
    · rename_i ci hci
      simp only [Bool.and_eq_true, decide_eq_true_eq, Bool.not_eq_true'] at q
      obtain ⟨⟨⟨⟨q1, q2⟩, q3⟩, q4⟩, q5⟩ := q
      obtain ⟨g1, _⟩ := hcl ci.1 _ (List.getElem?_eq_getElem q1)
      exact ⟨ci.1, ci.2, hci, g1, ⟨q2, q3, q4⟩, fun hm => by rw [List.contains_iff_mem.mpr hm] at q5; cases q5⟩
    · cases q
  · have q := allI_ok h7 hi
    simp only [Bool.and_eq_true, decide_eq_true_eq] at q
    obtain ⟨⟨⟨⟨⟨q1, q2⟩, q3⟩, q4⟩, q5⟩, q6⟩ := q
    exact ⟨⟨q1, q2, q3, q4⟩, q5, q6⟩
  · have q := allI_ok h8 hx
    split at q
    · rename_i d hd
      simp only [Bool.and_eq_true, Bool.not_eq_true'] at q
      obtain ⟨q0, q⟩ := q
      split at q
      · rename_i t es n sl hl
        simp only [Bool.and_eq_true] at q
        obtain ⟨⟨q1, q2⟩, q3⟩ := q
        obtain rfl := eq_of_beq q1
        have esl : sl = #[] := Array.toList_inj.mp (by simpa using q2)
        subst esl
        split at q3
        · rename_i kv hkv
          have hl : K.lookup d = some ⟨.type "dict", none, .dict es n, #[]⟩ := hl
          have hd : nsIn K mainGlobals x = some (some (.ref d)) := hd
          have hlit := lit x (List.mem_of_getElem? hx)
          unfold dictAt at hlit
          simp only [hd, hl] at hlit
          refine ⟨d, es, n, kv, mg_of KX G hd, ⟨hl, hlit, q0⟩, hkv, fun y => ?_⟩
          obtain ⟨f1, f2⟩ := es_find (y := y) q3
          split
          · rename_i p hp
            rw [hp] at f2
            obtain ⟨e, t, e1, e2⟩ := f2
            refine ⟨t, ?_⟩
            unfold nsIn
            simp only [hl, e1, e2]
          · rename_i hp
            rw [hp] at f2
            unfold nsIn
            simp only [hl, f2, f1]
            rfl
        · cases q3
      · cases q
    · cases q
end
end PI
end

section
set_option autoImplicit false
set_option maxHeartbeats 1000000
/-! PI22: the error classes; the end. -/
namespace PI
open PySem L2 PySem.Spec PyProof.Rows PySem.W
def excB (C : Cn) : Bool := allI C.D.xn fun c x => isAt C.K x (C.xa c) && decide (findIn C.K (.ref (C.xa c)) "__getattribute__" = some (some (.builtin "BaseException.__getattribute__"))) && decide (findIn C.K (.ref (C.xa c)) "__getattr__" = some none) &&
  decide (subIn C.K (.ref (C.xa c)) (.type "BaseException") = some true) && hasDictIn C.K (C.xa c) && decide (findIn C.K (.ref (C.xa c)) "__class__" = some (some (.builtin "object.__class__"))) &&
  decide (specialIn C.K (.builtin "object.__class__") "__get__" = some (some (.builtin "getset_descriptor.__get__"))) && decide (takesIn C.K (.builtin "object.__class__") = some true) && decide (mroIn C.K (C.xa c) (.type "object") = some true) &&
  decide (findIn C.K (.ref (C.xa c)) (C.xf c) = some none)
def subB (C : Cn) : Bool := allI C.D.L.subs fun c ds => allI C.D.xn fun d _ => decide (exmOne C.K (.ref (C.xa c)) (.ref (C.xa d)) = some (ds.contains d)) && decide (kitOne C.K (.ref (C.xa c)) (.ref (C.xa d)) = some (ds.contains d))
def exbB (C : Cn) : Bool := allI C.D.xn fun c _ => !decide (C.xf c = "") || (excIn C.K (C.xa c) [.type "ValueError", .type "Exception", .type "BaseException", .type "object"] "ValueError.__new__" && keepIn C.K (.ref (C.xa c)) &&
  decide (subIn C.K (.ref (C.xa c)) (.type "BaseException") = some true) && decide (typeIn C.K (.ref (C.xa c)) = some (.type "type")))
/-- def __init__(self, x): self.f = x -/
def bodyB (f : Str) : List Stmt → Option (Str × Str)
  | [.Assign [.Attribute (.Name s _) g _] (.Name p _) _] => if g = f then some (s, p) else none
  | _ => none
def initB (K : Frag) (fI : Addr) (f : Str) : Bool := match K.lookup fI with
  | some ⟨_, _, .func fd, _⟩ => (match fd.body with
    | .stmts body => (match bodyB f body with
      | some (s, p) => decide (fd.globals = mainGlobals) && fd.closure.isEmpty && decide (fd.builtins = builtinsNs) && codeIn K fd.code fd.qualname && scB [s, p] [s, p] fd.scope && argB fd.params [s, p] && (match fd.defaults with
        | .none => true
        | _ => false) && visB fd.scope s && visB fd.scope p && plainN s && plainN p
      | none => false)
    | _ => false)
  | _ => false
def oexB (K : Frag) (A : Addr) (f : Str) : Bool := (match K.lookup A with
  | some ⟨c, _, .cls cd, sl⟩ => decide (c = .type "type") && (match cd.mro with
    | .ref A' :: bm => decide (A' = A) && PySem.HandSPX.refsVE bm
    | _ => false) && cd.hasDict && !cd.hasDel && (match sl.toList with
    | [_, _, _, _, some (.builtin n), _] => n == "ValueError.__new__"
    | _ => false)
  | _ => false) && decide (findIn K (.ref A) "__setattr__" = some (some (.builtin "object.__setattr__"))) && decide (subIn K (.ref A) (.type "BaseException") = some true) && decide (typeIn K (.ref A) = some (.type "type")) && keepIn K (.ref A) &&
  decide (findIn K (.ref A) f = some none) && (match findIn K (.ref A) "__init__" with
  | some (some (.ref fI)) => decide (typeIn K (.ref fI) = some (.type "function")) && initB K fI f
  | _ => false)
def exiB (C : Cn) : Bool := allI C.D.xn fun c _ => decide (C.xf c = "") || oexB C.K (C.xa c) (C.xf c)
section
variable {C : Cn}
theorem ext_ok {K : Frag} {D : Dat} {w : World} {mg : Str → Option Value} {h : Heap} (KX : K.In h) (G : h.Ns mainGlobals mg) (h1 : excB (mkC K D) = true) (h2 : subB (mkC K D) = true) : ExcTxt (mkC K D) w K mg := by
  refine ⟨fun c x hx => ?_, fun c ds hc d x hx => ?_⟩
  · have q := allI_ok h1 hx
    simp only [Bool.and_eq_true, decide_eq_true_eq] at q
    obtain ⟨⟨⟨⟨⟨⟨⟨⟨⟨q1, q2⟩, q3⟩, q4⟩, q5⟩, q6⟩, q7⟩, q8⟩, q9⟩, q10⟩ := q
    exact ⟨mg_of KX G (of_decide_eq_true q1), ⟨q2, q3, q4, q5, q6, q7, q8, q9⟩, q10⟩
  · have q := allI_ok (allI_ok h2 hc) hx
    simp only [Bool.and_eq_true, decide_eq_true_eq] at q
    exact q
theorem init_fn {P : Program} {w : World} {K : Frag} {mg : Str → Option Value} {base : Heap} {A fI : Addr} {f : Str} (T : OexC K A) (hno : findIn K (.ref A) f = some none) (h : initB K fI f = true) :
    ∃ (fd : FuncData) (ps : List Str), FnOk P w K mg base (L2.CX P w) 1 fI fd ps (initSp A f) ∧ Binds K fd ps [] := by
  unfold initB at h
  split at h
  · rename_i oc od fd osl hl
    split at h
    · rename_i body hbody
      split at h
      · rename_i s p hsp
        simp only [Bool.and_eq_true, decide_eq_true_eq, List.isEmpty_iff] at h
        obtain ⟨⟨⟨⟨⟨⟨⟨⟨⟨⟨h1, h2⟩, h3⟩, h4⟩, h5⟩, h6⟩, h7⟩, h8⟩, h9⟩, h10⟩, h11⟩ := h
        have hdef : fd.defaults = .none := by
          cases e : fd.defaults <;> rw [e] at h7 <;> first | rfl | cases h7
        refine ⟨fd, [s, p], ?_, fun st us KX hlen => ?_⟩
        · have efd : fd = PySem.W.fnOf fd.name fd.qualname fd.params body fd.scope fd.defaults fd.kwdefaults fd.doc fd.pyModule fd.annotations fd.code fd.closureTuple := by
            obtain ⟨a1, a2, a3, a4, a5, a6, a7, a8, a9, a10, a11, a12, a13, a14, a15⟩ := fd
            simp only at h1 h2 h3 hbody
            subst h1 h2 h3 hbody
            rfl
          rw [efd] at hl ⊢
          refine fn_of (N := [s, p]) (k := 0) hl h4 (scB_ok h5) (fun vs H Q E hq => ?_) fun B outer st H vs Q E hr hq => ?_
          · obtain ⟨a, y, rfl, _⟩ := hq
            rfl
          · obtain ⟨a, y, rfl, ha, hk⟩ := hq
            unfold bodyB at hsp
            split at hsp
            · rename_i s' p1 g p2 p' p3 p4
              split at hsp
              · rename_i hg
                cases hsp
                subst hg
                have v1 := visB_ok h8
                have v2 := visB_ok h9
                simp only [plainN, Bool.and_eq_true, Bool.not_eq_true'] at h10 h11
                refine ⟨_, pss_one (ps_ost (pe_var (i := 0) rfl v1 (ndB_ok h10.1) h10.2) (pe_var (i := 1) rfl v2 (ndB_ok h11.1) h11.2) rfl), ?_⟩
                refine ⟨y, rfl, .ref a, rfl, a, A, rfl, T, hno, .inl ⟨ha, fun dx h1 h2 => hk dx h1 h2⟩⟩
              · cases hsp
            · cases hsp
        · rw [List.append_nil] at hlen ⊢
          obtain ⟨k, e1, e2⟩ := bind_gen (fd := fd) (us := us) (its := []) (j := 0) h6 (Nat.zero_le _) (Nat.le_refl _) (by simpa using hlen)
          refine BindsTo.of_looks fun M => ?_
          rw [e1, hdef]
          have e3 : (seqItems? Value.none >>= k) = k none := by first | rfl | (simp [seqItems?])
          rw [e3]
          have e4 := e2 none rfl
          simp only [List.drop_nil, List.append_nil] at e4
          exact PySem.W.Looks.of_pure e4
      · cases h
    · cases h
  · cases h
theorem oex_ok {P : Program} {w : World} {K : Frag} {mg : Str → Option Value} {base : Heap} {A : Addr} {f : Str} (h : oexB K A f = true) : ExcInit P w K mg base A f := by
  simp only [oexB, Bool.and_eq_true, decide_eq_true_eq] at h
  obtain ⟨⟨⟨⟨⟨⟨h1, h2⟩, h3⟩, h4⟩, h5⟩, h6⟩, h7⟩ := h
  have T : OexC K A := by
    refine ⟨?_, h2, h3, h4, h5⟩
    split at h1
    · rename_i c dd cd sl hl
      simp only [Bool.and_eq_true, decide_eq_true_eq, Bool.not_eq_true'] at h1
      obtain ⟨⟨⟨⟨g1, g2⟩, g3⟩, g4⟩, g5⟩ := h1
      obtain ⟨nm, bs, mro, ns, qn, hd, sn, sb, ab, col, del⟩ := cd
      simp only at g2 g3 g4
      subst g1 g3 g4
      split at g2
      · rename_i A' bm
        simp only [Bool.and_eq_true, decide_eq_true_eq] at g2
        obtain ⟨rfl, g2⟩ := g2
        obtain ⟨sl⟩ := sl
        simp only at g5
        split at g5
        · rename_i k0 k1 k2 k3 n k5
          obtain rfl := eq_of_beq g5
          exact ⟨nm, qn, ns, bs, bm, sn, sb, ab, col, dd, k0, k1, k2, k3, k5, hl, g2⟩
        · cases g5
      · cases g2
    · cases h1
  split at h7
  · rename_i fI hfI
    simp only [Bool.and_eq_true, decide_eq_true_eq] at h7
    obtain ⟨fd, ps, F, b⟩ := init_fn (P := P) (w := w) (mg := mg) (base := base) T h6 h7.2
    exact ⟨T, fI, fd, ps, hfI, h7.1, F, b⟩
  · cases h7
theorem err_ok {K : Frag} {D : Dat} {P : Program} {w : World} {mg : Str → Option Value} {base : Heap} (h1 : exbB (mkC K D) = true) (h2 : exiB (mkC K D) = true) : ErrOk (mkC K D) P w K mg base := by
  refine ⟨fun c x hx he => ?_, fun c x hx he => ?_⟩
  · have q := allI_ok h1 hx
    simp only [Bool.or_eq_true, Bool.not_eq_true', decide_eq_false_iff_not, Bool.and_eq_true, decide_eq_true_eq] at q
    rcases q with q | q
    · exact absurd he q
    · exact ⟨q.1.1.1, q.1.1.2, q.1.2, q.2⟩
  · have q := allI_ok h2 hx
    simp only [Bool.or_eq_true, decide_eq_true_eq] at q
    rcases q with q | q
    · exact absurd q he
    · exact oex_ok q
def errB (C : Cn) : Bool := excB C && subB C && exbB C && exiB C
def allB (C : Cn) : Bool := txtB C && errB C && mkB C.K C.D
/-! ### the law's call -/
/-- the cells at the law's start: the tables of those that make lambdas -/
def G0 (D : Dat) : Hh := D.mks.map fun m => .tab m
theorem G0_at {D : Dat} {n : Nat} {c : Cell} (e : (G0 D)[n]? = some c) : ∃ m, D.mks[n]? = some m ∧ c = .tab m := by
  unfold G0 at e
  rw [List.getElem?_map] at e
  obtain ⟨m, h1, h2⟩ := Option.map_eq_some_iff.mp e
  exact ⟨m, h1, h2.symm⟩
theorem law_runs {P : Program} {w : World} {K : Frag} {D : Dat} {mg mb : Str → Option Value} {k i : Nat} {fa a : Addr} {F : Fn} {lx px : Str} {s₁ : Shared} {vs : List Value} {ns : List Int}
    (KX : K.In s₁.heap) (hns : s₁.heap.Ns mainGlobals mg) (hb : s₁.heap.Ns builtinsNs mb) (hbb : ∀ x : Str, x ≠ "__name__" → mb x = bootBuiltins x) (hlim : s₁.heap.NoLimit) (hg : s₁.gens = #[])
    (hbm : ∃ (bm : Addr) (ob : Obj), mg "__builtins__" = some (.ref bm) ∧ bm ≠ builtinsNs ∧ s₁.heap.get? bm = some ob ∧ ob.cls = .type "module" ∧ ob.dict = some builtinsNs ∧ ob.data = .plain)
    (hT : ∀ m ∈ D.mks, s₁.heap.get? ((mkC K D).tp m) = some { cls := .none, data := .fields #[] })
    (ha : s₁.heap.get? a = some { cls := .type "list", data := .seq vs.toArray }) (hi : IntsAre vs ns) (hl : ns.length ≤ sizeLine) (hr : Room (2 * k + 1) callerA)
    (hF : D.fs[i]? = some F) (hfL : lamB D i = false) (hfa : mg lx = some (.ref fa)) (hlx : D.gn[i]? = some lx) (hne : lx ≠ "") (hpn : D.pn[i]? = some [px]) (hdf : D.dfs[i]? = some [[]])
    (ok : allB (mkC K D) = true) (lit : ∀ x ∈ D.dn, KeysLit w.params (dictAt K x))
    (plain : ∃ G', run D.L D.fs k i [.lst (ns.map .int)] (G0 D) = .ok (.bl true) G') :
    codeAny (model P w) callerA (.call (.ref fa) ⟨[.ref a], []⟩) (fun r s' => r = .ok (.ret (.bool true)) ∧ OldK s₁.heap s'.heap ∧ s'.os = s₁.os ∧ AllBare s'.gens) s₁ := by
  have rv := vals_ints hi
  have lenV := hi.length
  simp only [allB, errB, Bool.and_eq_true] at ok
  obtain ⟨⟨ok1, ⟨⟨ok2, ok3⟩, ok4⟩, ok5⟩, ok6⟩ := ok
  obtain ⟨tnd, tfacts⟩ := mkB_ok (show mkB K D = true from ok6)
  obtain ⟨G', hrun⟩ := plain
  let T : List Addr := D.mks.map (mkC K D).tp
  have hTm : ∀ b, b ∈ T → ∃ m ∈ D.mks, (mkC K D).tp m = b := fun b h => List.mem_map.mp h
  have hTb : ∀ b, b ∈ T → s₁.heap.get? b = some { cls := .none, data := .fields #[] } := fun b h => by
    obtain ⟨m, hm, rfl⟩ := hTm b h
    exact hT m hm
  have aT : a ∉ T := fun h => by
    have q := hTb a h
    rw [ha] at q
    cases (show Data.seq vs.toArray _ = Data.fields #[] from congrArg Obj.data (Option.some.inj q))
  -- over any heap in which nothing but the script and the tables may be tracked
  have whole : ∀ H : Hp, (∀ b, b ∈ T → H b = some (.tbl #[])) → (∀ b, H b = none ∨ b ∈ T ∨ ∃ o xs, H b = some (.frz o (.lst xs))) → SqL K H a (ns.map V.int) → HOk P w H s₁.heap → (∀ b, H b ≠ none → b = a ∨ b ∈ T) → (H a ≠ none → K.lookup a = none) →
      codeAny (model P w) callerA (.call (.ref fa) ⟨[.ref a], []⟩) (fun r s' => r = .ok (.ret (.bool true)) ∧ OldK s₁.heap s'.heap ∧ s'.os = s₁.os ∧ AllBare s'.gens) s₁ := by
    intro H hH hO hS hok hA hKa
    have away : ∀ {b : Addr} {o : Obj}, s₁.heap.get? b = some o → (∀ vs n, o.data ≠ .seq vs n) → (∀ vs, o.data ≠ .fields vs) → H b = none := fun {b o} e d1 d2 => by
      cases q : H b with
      | none => rfl
      | some u =>
        rcases hA b (by rw [q]; simp) with z | z
        · subst z
          rw [ha] at e
          obtain rfl := Option.some.inj e
          exact absurd rfl (d1 _ _)
        · rw [hTb b z] at e
          obtain rfl := Option.some.inj e
          exact absurd rfl (d2 _)
    have nsK : ∀ {b : Addr} {m : Str → Option Value}, s₁.heap.Ns b m → (hidT s₁.heap H).Ns b m := fun {b m} ⟨o, es, ep, e, d, r⟩ => ⟨o, es, ep, hidT_get e (away e (fun _ _ z => by rw [d] at z; cases z) fun _ z => by rw [d] at z; cases z), d, r⟩
    have KB : K.In (hidT s₁.heap H) := fun b o e => hidT_get (KX b o e) (by
      cases q : H b with
      | none => rfl
      | some u =>
        rcases hA b (by rw [q]; simp) with z | z
        · subst z
          rw [hKa (by rw [q]; simp)] at e
          cases e
        · obtain ⟨m, hm, rfl⟩ := hTm b z
          obtain ⟨_, _, _, _, _, n, _⟩ := tfacts m hm
          rw [n] at e
          cases e)
    have md : Mod K mg (hidT s₁.heap H) := ⟨KB, nsK hns, ⟨mb, nsK hb, hbb⟩, let ⟨mc, h1, h2⟩ := hlim; ⟨mc, nsK h1, h2⟩⟩
    have env : Env0 P w K mg (hidT s₁.heap H) callerA [] s₁ H := ⟨rfl, md, fun b o e => of_hidT e, Nat.le_of_eq (hidT_size _ _), trivial, fun b hb => absurd (show b ∈ ([] : List Addr) from hb) (by simp), hok, .of_eq hg⟩
    obtain ⟨txt, defs⟩ := txt_ok (w := w) KB (nsK hns) ok1 lit
    have ext := ext_ok (w := w) KB (nsK hns) ok2 ok3
    have er := err_ok (P := P) (w := w) (mg := mg) (base := hidT s₁.heap H) ok4 ok5
    have tb : TabOk (mkC K D) mg (hidT s₁.heap H) := ⟨fun m hm => by
      obtain ⟨j, hj, hj2⟩ := List.any_eq_true.mp hm
      obtain rfl := eq_of_beq hj2
      obtain ⟨x, c, _, _, q3, q4, q5, q6⟩ := tfacts j hj
      obtain ⟨bm, ob, b1, b2, b3, b4, b5, b6⟩ := hbm
      refine ⟨c, q3, NdefX.tabB_of_K KB q5 ⟨bm, ob, b1, b2, fun z => ?_, fun z => ?_, hidT_get b3 (away b3 (fun _ _ z => by rw [b6] at z; cases z) fun _ z => by rw [b6] at z; cases z), b4, b5, b6⟩ q6, rfl⟩
      · obtain ⟨o, es, ep, e, d, _⟩ := hns
        rw [z, e] at b3
        obtain rfl := Option.some.inj b3
        rw [d] at b6
        cases b6
      · rw [z, hT j hj] at b3
        obtain rfl := Option.some.inj b3
        cases b6⟩
    have fn := (all_ok (C := mkC K D) (P := P) (lc := lc1 D) (base := hidT s₁.heap H) defs lam_txt rfl tb (fun _ _ _ _ h => h) txt ext er k).1 i F hF hfL
    have hadr : fa = (mkC K D).fa i := by
      have h1 := (txt.gf i lx hlx hne).1
      rw [hfa] at h1
      exact Value.ref.inj (Option.some.inj h1)
    obtain ⟨dsv, dvs, bnd, hv, rd⟩ := txt.bnd i [[]] [] hdf (by simp)
    have hdvs : dvs = [] := by
      have := (rd ⟨fun _ => 0, fun _ => False⟩ 0 H).length
      exact List.length_eq_zero_iff.mp this.symm
    subst hdvs
    obtain rfl : dsv = [] := hv.zero
    have epn : (mkC K D).pn i = [px] := by show ((D.pn[i]?).getD []) = [px]; rw [hpn]; rfl
    have hb1 := bnd s₁ [.ref a] KX (by rw [epn]; rfl)
    rw [List.append_nil] at hb1
    rw [hadr]
    let Z : Wit := ⟨fun n => ((D.mks[n]?).map (mkC K D).tp).getD 0, fun b => b ∈ T⟩
    have zα : ∀ {n m : Nat}, D.mks[n]? = some m → Z.α n = (mkC K D).tp m := fun e => by show ((D.mks[_]?).map (mkC K D).tp).getD 0 = _; rw [e]; rfl
    have inT : ∀ {n m : Nat}, D.mks[n]? = some m → (mkC K D).tp m ∈ T := fun e => List.mem_map_of_mem (List.mem_of_getElem? e)
    refine codeAny_mono (fn.run callerA [] s₁ H ⟨[.ref a], []⟩ [.ref a] [.ref a] (fun v _ => v = .bl true) (fun _ _ _ => False) hr rfl env hb1 (.cons rfl .nil) ⟨[.lst (ns.map .int)], Z, G0 D, ?_, ?_, ?_⟩) fun r s' h => ?_
    · refine .cons (.lst (vs := ns.map V.int) ?_ ?_) .nil
      · rcases hS with hS | hS
        · exact .inl ⟨hS, aT⟩
        · exact .inr fun _ => .inr hS
      · clear hl hrun hi rv lenV hS
        induction ns with
        | nil => exact .nil
        | cons n ns ih => exact .cons (.int n) ih
    · refine ⟨fun n c e => ?_, fun m n c d e1 e2 _ _ he => ?_, fun b hb z => ?_⟩
      · obtain ⟨m, hm, rfl⟩ := G0_at e
        rw [zα hm]
        exact ⟨rfl, LamX.TabS.nil (hH _ (inT hm)), inT hm⟩
      · obtain ⟨x, hx, _⟩ := G0_at e1
        obtain ⟨y, hy, _⟩ := G0_at e2
        rw [zα hx, zα hy] at he
        have l1 : (D.mks.map fun m => (tabAt K D m).2)[m]? = some ((mkC K D).tp x) := by rw [List.getElem?_map, hx]; rfl
        have l2 : (D.mks.map fun m => (tabAt K D m).2)[n]? = some ((mkC K D).tp x) := by rw [List.getElem?_map, hy, he]; rfl
        have m1 := (List.getElem?_eq_some_iff.mp l1).1
        exact (List.getElem?_inj m1 tnd).mp (l1.trans l2.symm)
      · rw [hH b hb] at z; cases z
    · show okG _ _ _ _ _ _ _ (run D.L D.fs k i [.lst (ns.map .int)] (G0 D)) _
      rw [hrun]
      intro Z' H' v _ r
      cases r
      rfl
    · cases r with
      | error e =>
        obtain ⟨_, _, _, _, _, _, _, _, _, _, _, _, z⟩ := h
        exact z.elim
      | ok fl =>
        cases fl with
        | next => exact False.elim h
        | brk => exact False.elim h
        | cont => exact False.elim h
        | ret u =>
          obtain ⟨v, H', os, bare, un, hok', r', q⟩ := h
          have q' : v = .bl true := q
          subst q'
          obtain rfl : u = Value.bool true := r'
          have stay : ∀ b o, b ∉ T → s₁.heap.get? b = some o → s'.heap.get? b = some o := fun b o nb e => by
            cases q : H b with
            | none => exact un.keep b o e q (by intro z; exact absurd (show b ∈ ([] : List Addr) from z) (by simp)) (by simp)
            | some u =>
              rcases hO b with z | z | ⟨ob, xs, z⟩
              · rw [q] at z
                cases z
              · exact absurd z nb
              · obtain ⟨e1, _⟩ := hok b _ z
                obtain ⟨e2, _⟩ := hok' b _ (un.frzs b ob _ z)
                rw [e] at e1
                obtain rfl := Option.some.inj e1
                exact e2
          have more : ∀ b, b ∈ T → ∃ ys : Array Value, s'.heap.get? b = some { cls := .none, data := .fields ys } := fun b hb => by
            obtain ⟨ys, z⟩ := un.tbls b #[] (hH b hb)
            exact ⟨_, hok' b _ z⟩
          refine ⟨rfl, ⟨fun b o e => ?_, fun b o e => ?_⟩, os, bare⟩
          · by_cases hb : b ∈ T
            · obtain ⟨ys, hys⟩ := more b hb
              have hq := hTb b hb
              obtain ⟨m, hm, rfl⟩ := hTm b hb
              obtain ⟨x, c, _, _, _, _, q5, _⟩ := tfacts m hm
              rw [hq] at e
              obtain rfl := Option.some.inj e
              exact .inr (.inl ⟨((PySem.W.codeHd_of_K KX q5).tab hq).isCodeTable, rfl, #[], ys, rfl, by rw [Array.empty_append]; exact hys⟩)
            · exact .inl (stay b o hb e)
          · by_cases hb : b ∈ T
            · obtain ⟨ys, hys⟩ := more b hb
              exact ⟨_, hys⟩
            · exact ⟨o, stay b o hb e⟩
  cases hk : K.lookup a with
  | some o =>
    have e := KX a o hk
    rw [ha] at e
    obtain rfl := Option.some.inj e
    refine whole (fun b => if b ∈ T then some (.tbl #[]) else none) (fun b h => if_pos h) (fun b => ?_) (.inr ⟨_, vs.toArray, _, hk, rfl, rfl, rfl, by rw [List.size_toArray, lenV]; exact hl, by simpa using rv⟩) (fun b u z => ?_) (fun b z => ?_) fun z => absurd (if_neg aT) z
    · by_cases h : b ∈ T
      · exact .inr (.inl h)
      · exact .inl (if_neg h)
    · by_cases h : b ∈ T
      · cases (if_pos h).symm.trans z
        exact hTb b h
      · cases (if_neg h).symm.trans z
    · by_cases h : b ∈ T
      · exact .inr h
      · exact absurd (if_neg h) z
  | none =>
    refine whole (fun b => if b = a then some (.frz { cls := .type "list", data := .seq vs.toArray } (.lst (ns.map V.int))) else if b ∈ T then some (.tbl #[]) else none) (fun b h => ?_) (fun b => ?_) (.inl (.inr ⟨{ cls := .type "list", data := .seq vs.toArray }, if_pos rfl⟩)) (fun b u z => ?_) (fun b z => ?_) fun _ => hk
    · have : b ≠ a := fun z => aT (z ▸ h)
      exact (if_neg this).trans (if_pos h)
    · by_cases hb : b = a
      · exact .inr (.inr ⟨_, _, if_pos hb⟩)
      · by_cases h : b ∈ T
        · exact .inr (.inl h)
        · exact .inl ((if_neg hb).trans (if_neg h))
    · by_cases hb : b = a
      · have z' := (if_pos hb).symm.trans z
        cases z'
        subst hb
        exact ⟨ha, by rw [List.length_map]; exact hl, vs, _, rv, ha⟩
      · have z' := (if_neg hb).symm.trans z
        by_cases h : b ∈ T
        · cases (if_pos h).symm.trans z'
          exact hTb b h
        · cases (if_neg h).symm.trans z'
    · by_cases hb : b = a
      · exact .inl hb
      · by_cases h : b ∈ T
        · exact .inr h
        · exact absurd ((if_neg hb).trans (if_neg h)) z
end
end PI
end

section
set_option autoImplicit false
set_option maxHeartbeats 1000000
/-! PI23: the head's goal. -/
namespace PI
open PySem L2 PySem.Spec PyProof.Rows PySem.W
theorem walk_run {l : PySem.W.OpenLaw} {n k i : Nat} {q : Program} {loose : List Str} {XP : (Str → Option Value) → Heap → Prop} {YP : World → Heap → Prop} {d : DefRec} {K : Params → Frag} {D : Dat} {F : Fn} {px : Str}
    (hn : l.most = some n) (hn2 : n ≤ sizeLine) (hdf : d.params.defaults = []) (hr : Room (2 * k + 1) callerA) (hY : ∀ (w : World) (h : Heap), YP w h → (K w.params).In h)
    (hF : D.fs[i]? = some F) (hfL : lamB D i = false) (hlx : D.gn[i]? = some d.name) (hne : d.name ≠ "") (hpn : D.pn[i]? = some [px]) (hdd : D.dfs[i]? = some [[]]) (hrec : (D.mks.all fun m => ((recsOf q).find? fun e => e.name == (D.gn[m]?).getD "").isSome) = true)
    (ok : ∀ p : Params, allB (mkC (K p) D) = true) (lit : ∀ p : Params, ∀ x ∈ D.dn, KeysLit p (dictAt (K p) x))
    (plain : ∀ ns : List Int, ns.length ≤ n → ∃ G', run D.L D.fs k i [.lst (ns.map .int)] (G0 D) = .ok (.bl true) G') :
    PySem.W.WalkO q loose XP YP l.row.toRowW d [] (fun f vs => PySem.call f vs) := by
  refine Att.attach_call hn hdf fun w s₀ s₁ mg mb fa o pm cd doc a vs ns G Y ho hd hcd hmg hobj hints hlen hg => ?_
  have KX := hY w _ Y
  refine law_runs KX G.T.g G.T.b G.T.builtins G.T.nolimit hg G.T.bmain (fun m hm => ?_) hobj hints (Nat.le_trans hlen hn2) hr hF hfL hmg hlx hne hpn hdd (ok w.params) (lit w.params) (plain ns hlen)
  have ok6 := ok w.params
  simp only [allB, Bool.and_eq_true] at ok6
  obtain ⟨x, c, q1, q2, _⟩ := (mkB_ok ok6.2).2 m hm
  have q1 : D.gn[m]? = some x := q1
  have h1 := List.all_eq_true.mp hrec m hm
  rw [q1] at h1
  obtain ⟨d', hd'⟩ := Option.isSome_iff_exists.mp h1
  exact (tab_of G.T KX hd' q2).2
theorem room_run {k : Nat} (h : k ≤ 40) : Room (2 * k + 1) callerA := Room.mono (k := 81) ⟨rfl, by decide, by decide⟩ (by omega)
end PI
end

section
set_option autoImplicit false
set_option maxHeartbeats 1000000
/-! PI24: the interpreter, line by line. -/
namespace PI
open PySem (Str PyData)
section
variable (L : Lib) (call : Nat → List W → Hh → R W) (ρ : Rho) (G : Hh)
@[simp] theorem bindOk {α β : Type} (a : α) (G : Hh) (k : α → Hh → R β) : R.bind (.ok a G) k = k a G := Eq.trans rfl rfl
@[simp] theorem bindEx {α β : Type} (c : Nat) (p : Option W) (G : Hh) (k : α → Hh → R β) : R.bind (.ex c p G : R α) k = .ex c p G := Eq.trans rfl rfl
@[simp] theorem thnOk {α : Type} (a : α) (G : Hh) (ρ : Rho) (k : α → Hh → RS) : R.thn (.ok a G) ρ k = k a G := Eq.trans rfl rfl
@[simp] theorem thnEx {α : Type} (c : Nat) (p : Option W) (G : Hh) (ρ : Rho) (k : α → Hh → RS) : R.thn (.ex c p G : R α) ρ k = .ex c p ρ G := Eq.trans rfl rfl
@[simp] theorem sthnNx (ρ : Rho) (G : Hh) (k : Rho → Hh → RS) : RS.thn (.nx ρ G) k = k ρ G := Eq.trans rfl rfl
@[simp] theorem sthnRt (w : W) (G : Hh) (k : Rho → Hh → RS) : RS.thn (.rt w G) k = .rt w G := Eq.trans rfl rfl
@[simp] theorem sthnEx (c : Nat) (p : Option W) (ρ : Rho) (G : Hh) (k : Rho → Hh → RS) : RS.thn (.ex c p ρ G) k = .ex c p ρ G := Eq.trans rfl rfl
@[simp] theorem ofO_s {α : Type} (a : α) (G : Hh) : ofO (some a) G = .ok a G := Eq.trans rfl rfl
@[simp] theorem noexOk {α : Type} (a : α) (G : Hh) : (R.ok a G).noex = .ok a G := Eq.trans rfl rfl
@[simp] theorem e_non : evE L call .non ρ G = .ok .non G := Eq.trans rfl rfl
@[simp] theorem e_bl (b : Bool) : evE L call (.bl b) ρ G = .ok (.bl b) G := Eq.trans rfl rfl
@[simp] theorem e_int (i : Int) : evE L call (.int i) ρ G = .ok (.int i) G := Eq.trans rfl rfl
@[simp] theorem e_str (x : Str) : evE L call (.str x) ρ G = .ok (.str x) G := Eq.trans rfl rfl
@[simp] theorem e_v (i : Nat) : evE L call (.v i) ρ G = ofO (getS ρ i) G := Eq.trans rfl rfl
@[simp] theorem e_g (k : Nat) : evE L call (.g k) ρ G = ofO L.gs[k]? G := Eq.trans rfl rfl
@[simp] theorem e_op (o : BOp) (a b : IE) : evE L call (.op o a b) ρ G = (evE L call a ρ G).bind fun x G1 => (evE L call b ρ G1).bind fun y G2 => evOp o x y G2 := Eq.trans rfl rfl
@[simp] theorem e_neg (a : IE) : evE L call (.neg a) ρ G = (evE L call a ρ G).bind fun x G1 => match x with
    | .int i => .ok (.int (-i)) G1
    | _ => .bad := Eq.trans rfl rfl
@[simp] theorem e_cmp (o : COp) (a b : IE) : evE L call (.cmp o a b) ρ G = (evE L call a ρ G).bind fun x G1 => (evE L call b ρ G1).bind fun y G2 => ofO ((evCmp o x y G2).map .bl) G2 := Eq.trans rfl rfl
@[simp] theorem e_chain (o o' : COp) (a b c : IE) : evE L call (.chain o o' a b c) ρ G = (evE L call a ρ G).bind fun x G1 => (evE L call b ρ G1).bind fun y G2 => (ofO (evCmp o x y G2) G2).bind fun k G3 =>
      if k then (evE L call c ρ G3).bind fun z G4 => ofO ((evCmp o' y z G4).map .bl) G4 else .ok (.bl false) G3 := Eq.trans rfl rfl
@[simp] theorem e_and (a b : IE) : evE L call (.andV a b) ρ G = (evE L call a ρ G).bind fun x G1 => match x with
    | .bl c => if c then evE L call b ρ G1 else .ok (.bl false) G1
    | _ => .bad := Eq.trans rfl rfl
@[simp] theorem e_or (a b : IE) : evE L call (.orV a b) ρ G = (evE L call a ρ G).bind fun x G1 => match x with
    | .bl c => if c then .ok (.bl true) G1 else evE L call b ρ G1
    | _ => .bad := Eq.trans rfl rfl
@[simp] theorem e_not (a : IE) : evE L call (.notV a) ρ G = (evE L call a ρ G).bind fun x G1 => match x with
    | .bl c => .ok (.bl (!c)) G1
    | _ => .bad := Eq.trans rfl rfl
@[simp] theorem e_ife (t : IT) (a b : IE) : evE L call (.ife t a b) ρ G = (evT L call t ρ G).bind fun c G1 => if c then evE L call a ρ G1 else evE L call b ρ G1 := Eq.trans rfl rfl
@[simp] theorem e_tup (es : IEs) : evE L call (.tup es) ρ G = (evEs L call es ρ G).bind fun xs G1 => if xs.length ≤ 1000000 then .ok (.tup xs) G1 else .bad := Eq.trans rfl rfl
@[simp] theorem e_lstT (es : IEs) : evE L call (.lst true es) ρ G = (evEs L call es ρ G).bind fun xs G1 => if xs.length ≤ 1000000 then .ok (.ref G1.length) (G1 ++ [.lst xs]) else .bad := Eq.trans rfl rfl
@[simp] theorem e_lstF (es : IEs) : evE L call (.lst false es) ρ G = (evEs L call es ρ G).bind fun xs G1 => if xs.length ≤ 1000000 then .ok (.lst xs) G1 else .bad := Eq.trans rfl rfl
@[simp] theorem e_ix (a i : IE) : evE L call (.ix a i) ρ G = (evE L call a ρ G).bind fun x G1 => (evE L call i ρ G1).bind fun y G2 => ofO (evIx x y G2) G2 := Eq.trans rfl rfl
@[simp] theorem e_sl (a : IE) (lo hi : IO) : evE L call (.sl a lo hi) ρ G = (evE L call a ρ G).bind fun x G1 => (evO L call lo ρ G1).bind fun l G2 => (evO L call hi ρ G2).bind fun h G3 => ofO (evSl x l h G3) G3 := Eq.trans rfl rfl
@[simp] theorem e_call (k : Nat) (es : IEs) (ds : List W) : evE L call (.call k es ds) ρ G = (evEs L call es ρ G).bind fun xs G1 => call k (xs ++ ds) G1 := Eq.trans rfl rfl
@[simp] theorem e_callK (i : Nat) (es ks : IEs) (pm : List Nat) : evE L call (.callK i es ks pm) ρ G = (evEs L call es ρ G).bind fun xs G1 => (evEs L call ks ρ G1).bind fun ys G2 => call i (xs ++ pick pm ys) G2 := Eq.trans rfl rfl
@[simp] theorem e_bi (b : Bi) (es : IEs) : evE L call (.bi b es) ρ G = (evEs L call es ρ G).bind fun xs G1 => ofO (evBi b xs G1) G1 := Eq.trans rfl rfl
@[simp] theorem e_lc (own : List Nat) (tg : Tg) (it : II) (t : IT) (e : IE) : evE L call (.lc own tg it t e) ρ G = (evI L call it ρ G).bind fun xs G1 => if xs.length ≤ 1000000 then
      (lcRun (lcStep own tg (evT L call t) (evE L call e) ρ) xs G1).bind fun ys G5 => .ok (.lst ys) G5 else .bad := Eq.trans rfl rfl
@[simp] theorem e_fld (a : IE) (c j : Nat) : evE L call (.fld a c j) ρ G = (evE L call a ρ G).bind fun x G1 => ofO ((insOf c x G1).bind fun fs => getS fs j) G1 := Eq.trans rfl rfl
@[simp] theorem e_meth (a : IE) (m : Nat) (es : IEs) : evE L call (.meth a m es) ρ G = (evE L call a ρ G).bind fun x G1 => match L.ms[m]? with
    | some ck => if (insOf ck.1 x G1).isSome then (evEs L call es ρ G1).bind fun xs G2 => call ck.2 (x :: xs) G2 else .bad
    | none => .bad := Eq.trans rfl rfl
@[simp] theorem e_isT (t : Tq) (a : IE) : evE L call (.isT t a) ρ G = (evE L call a ρ G).bind fun x G1 => ofO ((tyW G1 x).map fun u => .bl (tqB t u)) G1 := Eq.trans rfl rfl
@[simp] theorem e_inG (a : IE) (k : Nat) : evE L call (.inG a k) ρ G = (evE L call a ρ G).bind fun x G1 => match x, L.dicts[k]? with
    | .str y, some kv => .ok (.bl (kv.any fun p => decide (p.1 = y))) G1
    | _, _ => .bad := Eq.trans rfl rfl
@[simp] theorem e_ixG (k : Nat) (a : IE) : evE L call (.ixG k a) ρ G = (evE L call a ρ G).bind fun x G1 => match x, L.dicts[k]? with
    | .str y, some kv => ofO ((kv.find? fun p => decide (p.1 = y)).map fun p => .int p.2) G1
    | _, _ => .bad := Eq.trans rfl rfl
@[simp] theorem es_nil : evEs L call .nil ρ G = .ok [] G := Eq.trans rfl rfl
@[simp] theorem es_cons (e : IE) (es : IEs) : evEs L call (.cons e es) ρ G = (evE L call e ρ G).bind fun x G1 => (evEs L call es ρ G1).bind fun xs G2 => .ok (x :: xs) G2 := Eq.trans rfl rfl
@[simp] theorem es_star (e : IE) (es : IEs) : evEs L call (.star e es) ρ G = (evE L call e ρ G).bind fun x G1 => match seqOf G1 x with
    | some xs => (evEs L call es ρ G1).bind fun ys G2 => .ok (xs ++ ys) G2
    | none => .bad := Eq.trans rfl rfl
@[simp] theorem o_no : evO L call .no ρ G = .ok none G := Eq.trans rfl rfl
@[simp] theorem o_yes (e : IE) : evO L call (.yes e) ρ G = (evE L call e ρ G).bind fun x G1 => match x with
    | .int i => .ok (some i) G1
    | _ => .bad := Eq.trans rfl rfl
@[simp] theorem t_yes : evT L call .yes ρ G = .ok true G := Eq.trans rfl rfl
@[simp] theorem t_and (a b : IT) : evT L call (.and a b) ρ G = (evT L call a ρ G).bind fun c G1 => if c then evT L call b ρ G1 else .ok false G1 := Eq.trans rfl rfl
@[simp] theorem t_or (a b : IT) : evT L call (.or a b) ρ G = (evT L call a ρ G).bind fun c G1 => if c then .ok true G1 else evT L call b ρ G1 := Eq.trans rfl rfl
@[simp] theorem t_not (a : IT) : evT L call (.not a) ρ G = (evT L call a ρ G).bind fun c G1 => .ok (!c) G1 := Eq.trans rfl rfl
@[simp] theorem t_val (e : IE) : evT L call (.val e) ρ G = (evE L call e ρ G).bind fun x G1 => match x with
    | .bl c => .ok c G1
    | _ => .bad := Eq.trans rfl rfl
@[simp] theorem t_tru (e : IE) : evT L call (.tru e) ρ G = (evE L call e ρ G).bind fun x G1 => ofO (evTru x G1) G1 := Eq.trans rfl rfl
@[simp] theorem i_seq (e : IE) : evI L call (.seq e) ρ G = (evE L call e ρ G).bind fun x G1 => match x with
    | .tup xs => .ok xs G1
    | .lst xs => .ok xs G1
    | _ => .bad := Eq.trans rfl rfl
@[simp] theorem i_r1 (a : IE) : evI L call (.r1 a) ρ G = (evE L call a ρ G).bind fun x G1 => match x with
    | .int j => if j ≤ 1000000 ∧ -1000000 ≤ j then .ok (rangeW 0 j.toNat) G1 else .bad
    | _ => .bad := Eq.trans rfl rfl
@[simp] theorem i_r2 (a b : IE) : evI L call (.r2 a b) ρ G = (evE L call a ρ G).bind fun x G1 => (evE L call b ρ G1).bind fun y G2 => match x, y with
    | .int i, .int j => if (-1000000 ≤ i ∧ i ≤ 1000000) ∧ -1000000 ≤ j ∧ j ≤ 1000000 then .ok (rangeW i (j - i).toNat) G2 else .bad
    | _, _ => .bad := Eq.trans rfl rfl
@[simp] theorem i_enum (e : IE) : evI L call (.enum e) ρ G = (evE L call e ρ G).bind fun x G1 => match x with
    | .lst xs => .ok (enumW 0 xs) G1
    | .tup xs => .ok (enumW 0 xs) G1
    | _ => .bad := Eq.trans rfl rfl
@[simp] theorem x_asg (i : Nat) (e : IE) : exS L call (.asg i e) ρ G = (evE L call e ρ G).thn ρ fun x G1 => .nx (ρ.set i (some x)) G1 := Eq.trans rfl rfl
@[simp] theorem x_par (i j : Nat) (a b : IE) : exS L call (.par i j a b) ρ G = (evE L call a ρ G).thn ρ fun x G1 => (evE L call b ρ G1).thn ρ fun y G2 => .nx ((ρ.set i (some x)).set j (some y)) G2 := Eq.trans rfl rfl
@[simp] theorem x_par3 (i j l : Nat) (a b c : IE) : exS L call (.par3 i j l a b c) ρ G = (evE L call a ρ G).thn ρ fun x G1 => (evE L call b ρ G1).thn ρ fun y G2 => (evE L call c ρ G2).thn ρ fun z G3 => .nx (((ρ.set i (some x)).set j (some y)).set l (some z)) G3 := Eq.trans rfl rfl
@[simp] theorem x_unp (tg : IG) (e : IE) : exS L call (.unp tg e) ρ G = (evE L call e ρ G).thn ρ fun x G1 => match x with
    | .tup xs => if xs.length = tg.len then evG L call tg xs ρ G1 else .bad
    | _ => .bad := Eq.trans rfl rfl
@[simp] theorem x_drop (e : IE) : exS L call (.drop e) ρ G = (evE L call e ρ G).thn ρ fun _ G1 => .nx ρ G1 := Eq.trans rfl rfl
@[simp] theorem x_app (a e : IE) : exS L call (.append a e) ρ G = (evE L call a ρ G).thn ρ fun x G1 => if (lstOf x G1).isSome then (evE L call e ρ G1).thn ρ fun y G2 => evApp x y ρ G2 else .bad := Eq.trans rfl rfl
@[simp] theorem x_setL (a i e : IE) : exS L call (.setL a i e) ρ G = (evE L call e ρ G).thn ρ fun z G1 => (evE L call a ρ G1).thn ρ fun x G2 => (evE L call i ρ G2).thn ρ fun y G3 => evSet x y z ρ G3 := Eq.trans rfl rfl
@[simp] theorem x_setF (a e : IE) (c j : Nat) : exS L call (.setF a c j e) ρ G = (evE L call e ρ G).thn ρ fun z G1 => (evE L call a ρ G1).thn ρ fun x G2 => evStF c j x z ρ G2 := Eq.trans rfl rfl
@[simp] theorem x_ret (e : IE) : exS L call (.ret e) ρ G = (evE L call e ρ G).thn ρ fun x G1 => .rt x G1 := Eq.trans rfl rfl
@[simp] theorem x_cond (t : IT) (a b : ISs) : exS L call (.cond t a b) ρ G = (evT L call t ρ G).thn ρ fun c G1 => if c then exSs L call a ρ G1 else exSs L call b ρ G1 := Eq.trans rfl rfl
@[simp] theorem x_loop (tg : Tg) (it : II) (b : ISs) : exS L call (.loop tg it b) ρ G = (evI L call it ρ G).thn ρ fun xs G1 => loopRun (forStep tg (exSs L call b)) xs ρ G1 := Eq.trans rfl rfl
@[simp] theorem x_wh (t : IT) (b : ISs) : exS L call (.wh t b) ρ G = whRun (evT L call t) (exSs L call b) wfuel ρ G := Eq.trans rfl rfl
@[simp] theorem x_raise1 (c : Nat) (e : IE) : exS L call (.raise1 c e) ρ G = (evE L call e ρ G).thn ρ fun x G1 => .ex c (some x) ρ G1 := Eq.trans rfl rfl
@[simp] theorem x_try (b : ISs) (hs : List (Nat × SE)) : exS L call (.tryx b hs) ρ G = match exSs L call b ρ G with
    | .ex c p ρ1 G1 => evHs L c p ρ1 G1 hs
    | r => r := Eq.trans rfl rfl
@[simp] theorem xs_nil : exSs L call .nil ρ G = .nx ρ G := Eq.trans rfl rfl
@[simp] theorem xs_cons (s : IS) (ss : ISs) : exSs L call (.cons s ss) ρ G = (exS L call s ρ G).thn fun ρ1 G1 => exSs L call ss ρ1 G1 := Eq.trans rfl rfl
@[simp] theorem g_nil : evG L call .nil [] ρ G = .nx ρ G := Eq.trans rfl rfl
@[simp] theorem g_nm (i : Nat) (r : IG) (x : W) (xs : List W) : evG L call (.nm i r) (x :: xs) ρ G = evG L call r xs (ρ.set i (some x)) G := Eq.trans rfl rfl
@[simp] theorem g_sub (a i : IE) (r : IG) (z : W) (xs : List W) : evG L call (.sub a i r) (z :: xs) ρ G = (evE L call a ρ G).thn ρ fun x G1 => (evE L call i ρ G1).thn ρ fun y G2 => (evSet x y z ρ G2).thn fun ρ2 G3 => evG L call r xs ρ2 G3 := Eq.trans rfl rfl
end
@[simp] theorem getS0 (o : W) (ρ : Rho) : getS (some o :: ρ) 0 = some o := Eq.trans rfl rfl
@[simp] theorem getSs (o : Option W) (ρ : Rho) (i : Nat) : getS (o :: ρ) (i + 1) = getS ρ i := by simp [getS]
@[simp] theorem c_eq_i (i j : Int) (G : Hh) : evCmp .eq (.int i) (.int j) G = some (i == j) := Eq.trans rfl rfl
@[simp] theorem c_ne_i (i j : Int) (G : Hh) : evCmp .ne (.int i) (.int j) G = some (!(i == j)) := Eq.trans rfl rfl
@[simp] theorem c_eq_s (i j : Str) (G : Hh) : evCmp .eq (.str i) (.str j) G = some (decide (i = j)) := Eq.trans rfl rfl
@[simp] theorem c_ne_s (i j : Str) (G : Hh) : evCmp .ne (.str i) (.str j) G = some (!decide (i = j)) := Eq.trans rfl rfl
@[simp] theorem c_lt (i j : Int) (G : Hh) : evCmp .lt (.int i) (.int j) G = some (decide (i < j)) := Eq.trans rfl rfl
@[simp] theorem c_le (i j : Int) (G : Hh) : evCmp .le (.int i) (.int j) G = some (decide (i ≤ j)) := Eq.trans rfl rfl
@[simp] theorem c_gt (i j : Int) (G : Hh) : evCmp .gt (.int i) (.int j) G = some (decide (j < i)) := Eq.trans rfl rfl
@[simp] theorem c_ge (i j : Int) (G : Hh) : evCmp .ge (.int i) (.int j) G = some (decide (j ≤ i)) := Eq.trans rfl rfl
@[simp] theorem c_isN (x : W) (G : Hh) : evCmp .isN x .non G = some (isNon x) := Eq.trans rfl rfl
@[simp] theorem c_notN (x : W) (G : Hh) : evCmp .notN x .non G = some (!isNon x) := Eq.trans rfl rfl
@[simp] theorem o_add (i j : Int) (G : Hh) : evOp .add (.int i) (.int j) G = .ok (.int (i + j)) G := Eq.trans rfl rfl
@[simp] theorem o_sub (i j : Int) (G : Hh) : evOp .sub (.int i) (.int j) G = .ok (.int (i - j)) G := Eq.trans rfl rfl
theorem o_mul (i j : Int) (G : Hh) (h : (-18446744073709551616 < i ∧ i < 18446744073709551616) ∨ (-18446744073709551616 < j ∧ j < 18446744073709551616)) : evOp .mul (.int i) (.int j) G = .ok (.int (i * j)) G := if_pos h
theorem o_mod (i j : Int) (G : Hh) (h : 0 < j) : evOp .mod (.int i) (.int j) G = .ok (.int (i % j)) G := if_pos h
theorem o_div (i j : Int) (G : Hh) (h : 0 < j ∧ j < 1073741824) : evOp .fdiv (.int i) (.int j) G = .ok (.int (i / j)) G := if_pos h
@[simp] theorem tru_bl (b : Bool) (G : Hh) : evTru (.bl b) G = some b := Eq.trans rfl rfl
/-- how a call ends, where the cells stay -/
def endK : RS → R W
  | .nx _ G => .ok .non G
  | .rt w G => .ok w G
  | .ex c p _ G => .ex c p G
  | .bad => .bad
@[simp] theorem endK_rt (w : W) (G : Hh) : endK (.rt w G) = .ok w G := Eq.trans rfl rfl
@[simp] theorem endK_nx (ρ : Rho) (G : Hh) : endK (.nx ρ G) = .ok .non G := Eq.trans rfl rfl
@[simp] theorem endK_ex (c : Nat) (p : Option W) (ρ : Rho) (G : Hh) : endK (.ex c p ρ G) = .ex c p G := Eq.trans rfl rfl
theorem run_at {L : Lib} {fs : List Fn} {i : Nat} {F : Fn} (hF : fs[i]? = some F) (hk : F.keep = true) (k : Nat) (vs : List W) (G : Hh) (hl : vs.length = F.ps) :
    run L fs (k + 1) i vs G = endK (exSs L (run L fs k) F.body (vs.map some ++ List.replicate (F.n - F.ps) none) G) := by
  simp only [run, hF, if_pos hl, fin, finX, hk, if_true]
  cases exSs L (run L fs k) F.body (vs.map some ++ List.replicate (F.n - F.ps) none) G <;> rfl
end PI
end

section
set_option autoImplicit false
/-! NT: how often a prime divides, squares, cores; no program in sight. -/
namespace NF
def prs : List Int := [2, 3, 5, 7, 11, 13, 17, 19, 23, 29, 31, 37, 41, 43, 47, 53, 59, 61, 67, 71, 73, 79, 83, 89, 97]
/-! ### how often a number divides -/
def ordU (p : Int) : Nat → Int → Nat × Int
  | 0, n => (0, n)
  | f + 1, n => if n % p = 0 then ((ordU p f (n / p)).1 + 1, (ordU p f (n / p)).2) else (0, n)
def ord (n p : Int) : Nat := (ordU p n.natAbs n).1
def unt (n p : Int) : Int := (ordU p n.natAbs n).2
theorem div_less {n p : Int} (hp : 2 ≤ p) (hn : n ≠ 0) (h : n % p = 0) : n / p ≠ 0 ∧ 2 * (n / p).natAbs ≤ n.natAbs ∧ n = p * (n / p) := by
  have h1 := Int.mul_ediv_add_emod n p
  rw [h, Int.add_zero] at h1
  have h0 : n / p ≠ 0 := fun z => by rw [z, Int.mul_zero] at h1; exact hn h1.symm
  refine ⟨h0, ?_, h1.symm⟩
  have h2 : n.natAbs = p.natAbs * (n / p).natAbs := by rw [← Int.natAbs_mul, h1]
  rw [h2]
  exact Nat.mul_le_mul_right _ (by omega)
theorem ordU_spec {p : Int} (hp : 2 ≤ p) : ∀ (f : Nat) (n : Int), n ≠ 0 → n.natAbs < 2 ^ f → n = p ^ (ordU p f n).1 * (ordU p f n).2 ∧ (ordU p f n).2 % p ≠ 0
  | 0, n, hn, hf => by simp at hf; exact absurd hf hn
  | f + 1, n, hn, hf => by
    unfold ordU
    split
    · rename_i h
      obtain ⟨h0, h1, h2⟩ := div_less hp hn h
      obtain ⟨q1, q2⟩ := ordU_spec hp f (n / p) h0 (by rw [Nat.pow_succ] at hf; omega)
      refine ⟨?_, q2⟩
      show n = p ^ ((ordU p f (n / p)).1 + 1) * _
      rw [Int.pow_succ, Int.mul_assoc, Int.mul_left_comm, ← q1]
      exact h2
    · rename_i h
      exact ⟨by simp, h⟩
theorem ord_uniq {p : Int} (hp : 2 ≤ p) : ∀ {e e' : Nat} {u u' : Int}, p ^ e * u = p ^ e' * u' → u % p ≠ 0 → u' % p ≠ 0 → e = e' ∧ u = u'
  | 0, 0, u, u', h, _, _ => ⟨rfl, by simpa using h⟩
  | 0, e' + 1, u, u', h, hu, _ => by
    exfalso
    apply hu
    rw [Int.pow_zero, Int.one_mul, Int.pow_succ, Int.mul_comm (p ^ e') p, Int.mul_assoc] at h
    rw [h]
    exact Int.mul_emod_right p _
  | e + 1, 0, u, u', h, _, hu' => by
    exfalso
    apply hu'
    rw [Int.pow_zero, Int.one_mul, Int.pow_succ, Int.mul_comm (p ^ e) p, Int.mul_assoc] at h
    rw [← h]
    exact Int.mul_emod_right p _
  | e + 1, e' + 1, u, u', h, hu, hu' => by
    have h2 : p * (p ^ e * u) = p * (p ^ e' * u') := by
      rw [Int.pow_succ, Int.pow_succ, Int.mul_comm (p ^ e) p, Int.mul_comm (p ^ e') p, Int.mul_assoc, Int.mul_assoc] at h
      exact h
    obtain ⟨a, b⟩ := ord_uniq hp (Int.eq_of_mul_eq_mul_left (by omega) h2) hu hu'
    exact ⟨by rw [a], b⟩
theorem ord_spec {n p : Int} (hp : 2 ≤ p) (hn : n ≠ 0) : n = p ^ ord n p * unt n p ∧ unt n p % p ≠ 0 := ordU_spec hp _ n hn Nat.lt_two_pow_self
theorem ord_of {n p : Int} (hp : 2 ≤ p) (hn : n ≠ 0) {e : Nat} {u : Int} (h : n = p ^ e * u) (hu : u % p ≠ 0) : ord n p = e ∧ unt n p = u := by
  obtain ⟨a, b⟩ := ord_spec hp hn
  exact ord_uniq hp (a.symm.trans h) b hu
theorem ordU_eq {p : Int} (hp : 2 ≤ p) {f : Nat} {n : Int} (hn : n ≠ 0) (hf : n.natAbs < 2 ^ f) : ordU p f n = (ord n p, unt n p) := by
  obtain ⟨a, b⟩ := ordU_spec hp f n hn hf
  obtain ⟨c, d⟩ := ord_of hp hn a b
  rw [c, d]
theorem ord_step {n p : Int} (hp : 2 ≤ p) (hn : n ≠ 0) (h : n % p = 0) : ord n p = ord (n / p) p + 1 ∧ unt n p = unt (n / p) p := by
  obtain ⟨h0, h1, h2⟩ := div_less hp hn h
  obtain ⟨a, b⟩ := ord_spec hp h0
  refine ord_of hp hn ?_ b
  rw [Int.pow_succ, Int.mul_comm (p ^ _) p, Int.mul_assoc, ← a]
  exact h2
theorem ord_stop {n p : Int} (hp : 2 ≤ p) (hn : n ≠ 0) (h : n % p ≠ 0) : ord n p = 0 ∧ unt n p = n := ord_of hp hn (by simp) h
theorem unt_ne {n p : Int} (hp : 2 ≤ p) (hn : n ≠ 0) : unt n p ≠ 0 := fun z => (ord_spec hp hn).2 (by rw [z]; simp)
theorem unt_le {n p : Int} (hp : 2 ≤ p) (hn : n ≠ 0) : (unt n p).natAbs ≤ n.natAbs := by
  obtain ⟨a, _⟩ := ord_spec hp hn
  have h : n.natAbs = (p ^ ord n p).natAbs * (unt n p).natAbs := by rw [← Int.natAbs_mul, ← a]
  have h1 : 1 ≤ (p ^ ord n p).natAbs := by
    have : p ^ ord n p ≠ 0 := Int.pow_ne_zero (by omega)
    omega
  rw [h]
  calc (unt n p).natAbs = 1 * (unt n p).natAbs := (Nat.one_mul _).symm
    _ ≤ _ := Nat.mul_le_mul_right _ h1
/-! ### primes -/
/-- a prime, by what it does -/
structure Pr (p : Int) : Prop where
  two : 2 ≤ p
  mul : ∀ a b : Int, (a * b) % p = 0 → a % p = 0 ∨ b % p = 0
theorem pr_of {q : Nat} (h2 : 2 ≤ q) (h : ∀ d : Nat, d ∣ q → d = 1 ∨ d = q) : Pr (q : Int) := by
  refine ⟨by omega, fun a b hab => ?_⟩
  have hd : (q : Int) ∣ a * b := Int.dvd_of_emod_eq_zero hab
  have hn : q ∣ a.natAbs * b.natAbs := by
    have := Int.natAbs_dvd_natAbs.mpr hd
    rwa [Int.natAbs_mul, Int.natAbs_natCast] at this
  by_cases ha : q ∣ a.natAbs
  · exact .inl (Int.emod_eq_zero_of_dvd (Int.ofNat_dvd_left.mpr ha))
  · right
    have hg : Nat.Coprime q a.natAbs := by
      rcases h _ (Nat.gcd_dvd_left q a.natAbs) with z | z
      · exact z
      · exact absurd (z ▸ Nat.gcd_dvd_right q a.natAbs) ha
    exact Int.emod_eq_zero_of_dvd (Int.ofNat_dvd_left.mpr (hg.dvd_of_dvd_mul_left hn))
theorem dvd_small {q : Nat} (hq : 2 ≤ q) (h : ((List.range q).all fun d => d < 2 || q % d != 0) = true) : ∀ d : Nat, d ∣ q → d = 1 ∨ d = q := by
  intro d hd
  have hle := Nat.le_of_dvd (by omega) hd
  by_cases e : d = q
  · exact .inr e
  · left
    have h1 := List.all_eq_true.mp h d (List.mem_range.mpr (by omega))
    have h0 : q % d = 0 := Nat.mod_eq_zero_of_dvd hd
    have hpos : d ≠ 0 := fun z => by
      rw [z] at hd
      have := Nat.eq_zero_of_zero_dvd hd
      omega
    simp [h0] at h1
    omega
theorem prs_pr : ∀ p ∈ prs, Pr p := by
  have key : (prs.all fun p => decide (2 ≤ p.toNat) && decide ((p.toNat : Int) = p) && ((List.range p.toNat).all fun d => d < 2 || p.toNat % d != 0)) = true := by decide +kernel
  intro p hp
  have h := List.all_eq_true.mp key p hp
  simp only [Bool.and_eq_true, decide_eq_true_eq] at h
  obtain ⟨⟨h1, h2⟩, h3⟩ := h
  have := pr_of h1 (dvd_small h1 h3)
  rwa [h2] at this
theorem ord_mul {p : Int} (P : Pr p) {a b : Int} (ha : a ≠ 0) (hb : b ≠ 0) : ord (a * b) p = ord a p + ord b p ∧ unt (a * b) p = unt a p * unt b p := by
  obtain ⟨a1, a2⟩ := ord_spec P.two ha
  obtain ⟨b1, b2⟩ := ord_spec P.two hb
  refine ord_of P.two (Int.mul_ne_zero ha hb) ?_ fun z => (P.mul _ _ z).elim a2 b2
  rw [Int.pow_add, Int.mul_assoc, Int.mul_left_comm (p ^ ord b p), ← Int.mul_assoc, ← a1, ← b1]
theorem ord_neg {p n : Int} (hp : 2 ≤ p) (hn : n ≠ 0) : ord (-n) p = ord n p ∧ unt (-n) p = -unt n p := by
  obtain ⟨a1, a2⟩ := ord_spec hp hn
  refine ord_of hp (by omega) (by rw [Int.mul_neg, ← a1]) ?_
  intro z
  exact a2 (by
    have := Int.dvd_of_emod_eq_zero z
    exact Int.emod_eq_zero_of_dvd (Int.dvd_neg.mp this))
/-! ### squarefree parts -/
/-- no square above 1 divides -/
def Sqf (n : Int) : Prop := n ≠ 0 ∧ ∀ d : Nat, d * d ∣ n.natAbs → d = 1
theorem sqf_uniq_nat : ∀ {a b x y : Nat}, a * (x * x) = b * (y * y) → x ≠ 0 → y ≠ 0 → (∀ d : Nat, d * d ∣ a → d = 1) → (∀ d : Nat, d * d ∣ b → d = 1) → a = b := by
  intro a b x y h hx hy ha hb
  -- divide by the common part
  obtain ⟨g, hg⟩ : ∃ g, g = Nat.gcd x y := ⟨_, rfl⟩
  have hg0 : 0 < g := by rw [hg]; exact Nat.gcd_pos_of_pos_left _ (by omega)
  obtain ⟨x', hx'⟩ : g ∣ x := by rw [hg]; exact Nat.gcd_dvd_left x y
  obtain ⟨y', hy'⟩ : g ∣ y := by rw [hg]; exact Nat.gcd_dvd_right x y
  have hc : Nat.Coprime x' y' := by
    have e : Nat.gcd (g * x') (g * y') = g * Nat.gcd x' y' := Nat.gcd_mul_left g x' y'
    rw [← hx', ← hy', ← hg] at e
    have : g * 1 = g * Nat.gcd x' y' := by rw [Nat.mul_one]; exact e
    exact (Nat.eq_of_mul_eq_mul_left hg0 this).symm
  have h' : a * (x' * x') = b * (y' * y') := by
    rw [hx', hy'] at h
    have e1 : a * (g * x' * (g * x')) = g * g * (a * (x' * x')) := by
      simp only [Nat.mul_assoc, Nat.mul_left_comm, Nat.mul_comm]
    have e2 : b * (g * y' * (g * y')) = g * g * (b * (y' * y')) := by
      simp only [Nat.mul_assoc, Nat.mul_left_comm, Nat.mul_comm]
    rw [e1, e2] at h
    exact Nat.eq_of_mul_eq_mul_left (Nat.mul_pos hg0 hg0) h
  have c1 : Nat.Coprime (x' * x') (y' * y') := Nat.Coprime.mul_left (Nat.Coprime.mul_right hc hc) (Nat.Coprime.mul_right hc hc)
  have d1 : x' * x' ∣ b := c1.dvd_of_dvd_mul_right ⟨a, by rw [Nat.mul_comm (x' * x') a]; exact h'.symm⟩
  have d2 : y' * y' ∣ a := c1.symm.dvd_of_dvd_mul_right ⟨b, by rw [Nat.mul_comm (y' * y') b]; exact h'⟩
  rw [hb x' d1, ha y' d2] at h'
  simpa using h'
theorem sqf_uniq {a b x y : Int} (h : a * (x * x) = b * (y * y)) (hx : x ≠ 0) (hy : y ≠ 0) (ha : Sqf a) (hb : Sqf b) : a = b := by
  have h1 : a.natAbs * (x.natAbs * x.natAbs) = b.natAbs * (y.natAbs * y.natAbs) := by rw [← Int.natAbs_mul, ← Int.natAbs_mul, ← Int.natAbs_mul, ← Int.natAbs_mul, h]
  have h2 := sqf_uniq_nat h1 (by omega) (by omega) ha.2 hb.2
  have px : 0 < x * x := by
    have := Int.mul_self_le_mul_self (a := 0) (b := 1) (by omega) (by omega)
    rcases Int.lt_or_gt_of_ne hx with z | z
    · exact Int.mul_pos_of_neg_of_neg z z
    · exact Int.mul_pos z z
  have py : 0 < y * y := by
    rcases Int.lt_or_gt_of_ne hy with z | z
    · exact Int.mul_pos_of_neg_of_neg z z
    · exact Int.mul_pos z z
  rcases Int.natAbs_eq_natAbs_iff.mp h2 with z | z
  · exact z
  · exfalso
    have hb0 := hb.1
    rw [z, Int.neg_mul] at h
    rcases Int.lt_or_gt_of_ne hb0 with n | n
    · have := Int.mul_neg_of_neg_of_pos n px
      have := Int.mul_neg_of_neg_of_pos n py
      omega
    · have := Int.mul_pos n px
      have := Int.mul_pos n py
      omega
end NF
end

section
set_option autoImplicit false
set_option maxHeartbeats 2000000
/-! S0: lists, loops, while, as the interpreter runs them. -/
namespace PI
open PySem (Str PyData)
section
variable (L : Lib) (call : Nat → List W → Hh → R W) (ρ : Rho) (G : Hh)
theorem e_callV (i : Nat) (es : IEs) : evE L call (.callV i es) ρ G = match getS ρ i with
    | some (.fn k) => (evEs L call es ρ G).noex.bind fun xs G1 => call k xs G1
    | some (.lam k) => (evEs L call es ρ G).noex.bind fun xs G1 => call k xs G1
    | _ => .bad := Eq.trans rfl rfl
theorem e_dct (ks : List L2.Key) (xs : List W) : evE L call (.dct ks xs) ρ G = .ok (.ref G.length) (G ++ [.dct ks xs]) := Eq.trans rfl rfl
theorem e_mk (c : Nat) : evE L call (.mk c) ρ G = match L.inits[c]? with
    | some (k, n) => (call k [.ref G.length] (G ++ [.ins c (List.replicate n none)])).bind fun y G1 => match y with
      | .non => .ok (.ref G.length) G1
      | _ => .bad
    | none => .bad := Eq.trans rfl rfl
theorem x_setD (a i e : IE) : exS L call (.setD a i e) ρ G = (evE L call e ρ G).thn ρ fun z G1 => (evE L call a ρ G1).thn ρ fun x G2 => (evE L call i ρ G2).thn ρ fun y G3 => evSetD x y z ρ G3 := Eq.trans rfl rfl
theorem x_raise0 (c : Nat) : exS L call (.raise0 c) ρ G = .ex c none ρ G := Eq.trans rfl rfl
theorem e_lam (i t m : Nat) : evE L call (.lam i t m) ρ G = match G[t]? with
    | some (.tab m') => if m' = m then .ok (.lam i) G else .bad
    | _ => .bad := Eq.trans rfl rfl
end
theorem o_addL (xs ys : List W) (G : Hh) (h : xs.length + ys.length ≤ 1000000) : evOp .add (.lst xs) (.lst ys) G = .ok (.lst (xs ++ ys)) G := if_pos h
theorem o_addT (xs ys : List W) (G : Hh) (h : xs.length + ys.length ≤ 1000000) : evOp .add (.tup xs) (.tup ys) G = .ok (.tup (xs ++ ys)) G := if_pos h
theorem tru_i (i : Int) (G : Hh) : evTru (.int i) G = some (i != 0) := Eq.trans rfl rfl
theorem bi_lenT (xs : List W) (G : Hh) : evBi .len [.tup xs] G = some (.int (xs.length : Nat)) := Eq.trans rfl rfl
theorem bi_lenL (xs : List W) (G : Hh) : evBi .len [.lst xs] G = some (.int (xs.length : Nat)) := Eq.trans rfl rfl
theorem bi_min (a b : Int) (G : Hh) : evBi .min1 [.tup [.int a, .int b]] G = some (.int (if b < a then b else a)) := Eq.trans rfl rfl
theorem bi_min2 (a b : Int) (G : Hh) : evBi .min2 [.int a, .int b] G = some (.int (if b < a then b else a)) := Eq.trans rfl rfl
theorem bi_max2 (a b : Int) (G : Hh) : evBi .max2 [.int a, .int b] G = some (.int (if b > a then b else a)) := Eq.trans rfl rfl
theorem bi_abs (i : Int) (G : Hh) : evBi .abs [.int i] G = some (.int (if i < 0 then -i else i)) := Eq.trans rfl rfl
theorem bi_int (i : Int) (G : Hh) : evBi .int [.int i] G = some (.int i) := Eq.trans rfl rfl
theorem bi_intb (b : Bool) (G : Hh) : evBi .int [.bl b] G = some (.int (if b then 1 else 0)) := Eq.trans rfl rfl
theorem bi_tupL (xs : List W) (G : Hh) : evBi .tuple [.lst xs] G = some (.tup xs) := Eq.trans rfl rfl
theorem bi_tupT (xs : List W) (G : Hh) : evBi .tuple [.tup xs] G = some (.tup xs) := Eq.trans rfl rfl
theorem bi_lstT (xs : List W) (G : Hh) : evBi .list [.tup xs] G = some (.lst xs) := Eq.trans rfl rfl
theorem bi_lstL (xs : List W) (G : Hh) : evBi .list [.lst xs] G = some (.lst xs) := Eq.trans rfl rfl
theorem sl_L (xs : List W) (lo hi : Option Int) (G : Hh) : evSl (.lst xs) lo hi G = some (.lst (cutW xs lo hi)) := Eq.trans rfl rfl
theorem sl_T (xs : List W) (lo hi : Option Int) (G : Hh) : evSl (.tup xs) lo hi G = some (.tup (cutW xs lo hi)) := Eq.trans rfl rfl
theorem bls_map : ∀ (bs : List Bool), blsOf (bs.map W.bl) = some bs
  | [] => rfl
  | b :: bs => by simp only [List.map_cons, blsOf, bls_map bs, Option.map]
theorem ints_map : ∀ (bs : List Int), intsOf (bs.map W.int) = some bs
  | [] => rfl
  | b :: bs => by simp only [List.map_cons, intsOf, ints_map bs, Option.map]
theorem bi_any (bs : List Bool) (G : Hh) : evBi .any [.lst (bs.map .bl)] G = some (.bl (bs.any id)) := by simp only [evBi, ev1, onL, bls_map, Option.map]
theorem bi_all (bs : List Bool) (G : Hh) : evBi .all [.lst (bs.map .bl)] G = some (.bl (bs.all id)) := by simp only [evBi, ev1, onL, bls_map, Option.map]
theorem bi_sum (bs : List Int) (G : Hh) : evBi .sum [.lst (bs.map .int)] G = some (.int bs.sum) := by simp only [evBi, ev1, onL, ints_map, Option.map]
theorem bi_sorted (bs : List Int) (G : Hh) : evBi .sorted [.lst (bs.map .int)] G = some (.lst ((sortI bs).map .int)) := by simp only [evBi, ev1, lOf, Option.bind_some, ints_map, Option.map]
/-! ### indexes, slices -/
theorem atI_nat {α : Type} (xs : List α) (i : Nat) (h : i < xs.length) : L2.atI xs ((i : Nat) : Int) = xs[i]? := by
  unfold L2.atI L2.ixN
  have h1 : (0 : Int) ≤ (i : Nat) := by omega
  have h2 : ((i : Nat) : Int) < (xs.length : Nat) := by omega
  simp [h1, h2, h]
theorem ix0 (x : W) (r : List W) (G : Hh) : evIx (.tup (x :: r)) (.int 0) G = some x := by
  simp [evIx, seqOf, L2.atI, L2.ixN]
theorem ix1 (x y : W) (r : List W) (G : Hh) : evIx (.tup (x :: y :: r)) (.int 1) G = some y := by
  have := atI_nat (x :: y :: r) 1 (by simp)
  simpa [evIx, seqOf] using this
theorem ix2 (x y z : W) (r : List W) (G : Hh) : evIx (.tup (x :: y :: z :: r)) (.int 2) G = some z := by
  have := atI_nat (x :: y :: z :: r) 2 (by simp)
  simpa [evIx, seqOf] using this
theorem ixT {xs : List W} {i : Nat} (h : i < xs.length) (G : Hh) : evIx (.tup xs) (.int ((i : Nat) : Int)) G = some xs[i] := by
  simp only [evIx, seqOf, Option.bind_some, atI_nat xs i h, List.getElem?_eq_getElem h]
theorem ixL {xs : List W} {i : Nat} (h : i < xs.length) (G : Hh) : evIx (.lst xs) (.int ((i : Nat) : Int)) G = some xs[i] := by
  simp only [evIx, seqOf, Option.bind_some, atI_nat xs i h, List.getElem?_eq_getElem h]
theorem cut_lo (xs : List W) (i : Nat) : cutW xs none (some ((i : Nat) : Int)) = xs.take i := by
  simp only [cutW, HT.sIx_none, HT.sIx_nat, List.drop_zero, Nat.sub_zero]
  by_cases h : i ≤ xs.length
  · rw [Nat.min_eq_left h]
  · rw [Nat.min_eq_right (by omega), List.take_length, List.take_of_length_le (by omega)]
theorem cut_hi (xs : List W) (i : Nat) : cutW xs (some ((i : Nat) : Int)) none = xs.drop i := by
  simp only [cutW, HT.sIx_none, HT.sIx_nat]
  by_cases h : i ≤ xs.length
  · rw [Nat.min_eq_left h, List.take_of_length_le (by rw [List.length_drop]; omega)]
  · rw [Nat.min_eq_right (by omega), Nat.sub_self, List.take_zero, List.drop_of_length_le (by omega)]
theorem cut_hi1 (xs : List W) (i : Nat) : cutW xs (some (((i : Nat) : Int) + 1)) none = xs.drop (i + 1) := cut_hi xs (i + 1)
theorem cut_map (l : List Int) (lo hi : Option Int) : ∃ l' : List Int, cutW (l.map W.int) lo hi = l'.map W.int ∧ (∀ x ∈ l', x ∈ l) ∧ l'.length ≤ l.length := by
  refine ⟨(l.drop (HT.sIx l.length 0 lo)).take (HT.sIx l.length l.length hi - HT.sIx l.length 0 lo), ?_, fun x hx => List.mem_of_mem_drop (List.mem_of_mem_take hx), ?_⟩
  · simp only [cutW, List.length_map, List.map_take, List.map_drop]
  · rw [List.length_take, List.length_drop]; omega
/-! ### comprehensions -/
theorem lc_fm {α : Type} (enc : α → W) (o : α → Option W) {step : W → Hh → R (Option W)} {G : Hh} : ∀ {xs : List α}, (∀ a ∈ xs, step (enc a) G = .ok (o a) G) → lcRun step (xs.map enc) G = .ok (xs.filterMap o) G
  | [], _ => rfl
  | x :: xs, h => by
    rw [List.map_cons, lcRun, h x (by simp), bindOk, lc_fm enc o fun a ha => h a (by simp [ha]), bindOk]
    cases e : o x <;> simp [e]
theorem fm_map {α β : Type} (f : α → β) (enc : β → W) (xs : List α) : xs.filterMap (fun a => some (enc (f a))) = (xs.map f).map enc := by
  rw [List.map_map]
  exact congrFun (List.filterMap_eq_map' (f := enc ∘ f)) xs
theorem fm_if {α : Type} (p : α → Bool) (enc : α → W) : ∀ xs : List α, xs.filterMap (fun a => if p a = true then some (enc a) else none) = (xs.filter p).map enc
  | [] => rfl
  | x :: xs => by
    rw [List.filterMap_cons, List.filter_cons, fm_if p enc xs]
    cases p x <;> rfl
/-- every item's value -/
theorem lc_map {α β : Type} (enc : α → W) (f : α → β) (enc2 : β → W) {step : W → Hh → R (Option W)} {G : Hh} {xs : List α} (h : ∀ a ∈ xs, step (enc a) G = .ok (some (enc2 (f a))) G) : lcRun step (xs.map enc) G = .ok ((xs.map f).map enc2) G := by
  rw [lc_fm enc (fun a => some (enc2 (f a))) h, fm_map]
/-- some of the items -/
theorem lc_filt {α : Type} (enc : α → W) (p : α → Bool) {step : W → Hh → R (Option W)} {G : Hh} {xs : List α} (h : ∀ a ∈ xs, step (enc a) G = .ok (if p a = true then some (enc a) else none) G) : lcRun step (xs.map enc) G = .ok ((xs.filter p).map enc) G := by
  rw [lc_fm enc _ h, fm_if]
theorem range_map (lo : Int) (n : Nat) : rangeW lo n = ((List.range n).map fun i => lo + (i : Nat)).map W.int := by
  rw [List.map_map]
  rfl
theorem enum_map {α : Type} (enc : α → W) : ∀ (j : Nat) (xs : List α), enumW j (xs.map enc) = ((xs.zipIdx j).map fun p => W.tup [.int ((p.2 : Nat) : Int), enc p.1])
  | _, [] => rfl
  | j, x :: xs => by rw [List.map_cons, enumW, enum_map enc (j + 1) xs, List.zipIdx_cons, List.map_cons]
/-! ### for -/
theorem loop_fold {α σ : Type} (enc : α → W) (P : σ → Rho → Prop) (f : σ → α → σ) {step : W → Rho → Hh → RS} {G : Hh} : ∀ {xs : List α} {s : σ} {ρ : Rho}, (∀ a ∈ xs, ∀ s ρ, P s ρ → ∃ ρ', step (enc a) ρ G = .nx ρ' G ∧ P (f s a) ρ') → P s ρ →
    ∃ ρ', loopRun step (xs.map enc) ρ G = .nx ρ' G ∧ P (xs.foldl f s) ρ'
  | [], s, ρ, _, h0 => ⟨ρ, rfl, h0⟩
  | x :: xs, s, ρ, h, h0 => by
    obtain ⟨ρ1, e1, h1⟩ := h x (by simp) s ρ h0
    obtain ⟨ρ2, e2, h2⟩ := loop_fold enc P f (xs := xs) (fun a ha => h a (by simp [ha])) h1
    exact ⟨ρ2, by rw [List.map_cons, loopRun, e1, sthnNx, e2], h2⟩
/-- a loop that is left at the first item of a kind -/
theorem loop_find {α : Type} (enc : α → W) (P : Rho → Prop) (p : α → Bool) (w : α → W) {step : W → Rho → Hh → RS} {G : Hh} : ∀ {xs : List α} {ρ : Rho}, (∀ a ∈ xs, ∀ ρ, P ρ → (p a = true ∧ step (enc a) ρ G = .rt (w a) G) ∨ (p a = false ∧ ∃ ρ', step (enc a) ρ G = .nx ρ' G ∧ P ρ')) → P ρ →
    (∃ a, xs.find? p = some a ∧ loopRun step (xs.map enc) ρ G = .rt (w a) G) ∨ (xs.find? p = none ∧ ∃ ρ', loopRun step (xs.map enc) ρ G = .nx ρ' G ∧ P ρ')
  | [], ρ, _, h0 => .inr ⟨rfl, ρ, rfl, h0⟩
  | x :: xs, ρ, h, h0 => by
    rcases h x (by simp) ρ h0 with ⟨h1, e1⟩ | ⟨h1, ρ1, e1, h2⟩
    · exact .inl ⟨x, by rw [List.find?_cons, h1], by rw [List.map_cons, loopRun, e1, sthnRt]⟩
    · rcases loop_find enc P p w (xs := xs) (fun a ha => h a (by simp [ha])) h2 with ⟨a, q1, q2⟩ | ⟨q1, q2⟩
      · exact .inl ⟨a, by rw [List.find?_cons, h1]; exact q1, by rw [List.map_cons, loopRun, e1, sthnNx]; exact q2⟩
      · exact .inr ⟨by rw [List.find?_cons, h1]; exact q1, by rw [List.map_cons, loopRun, e1, sthnNx]; exact q2⟩
/-- a loop over heaps -/
theorem loop_h {step : W → Rho → Hh → RS} {I : Nat → Rho → Hh → Prop} {xs : List W} (h : ∀ (i : Nat) (x : W) (ρ : Rho) (G : Hh), xs[i]? = some x → I i ρ G → ∃ ρ' G', I (i + 1) ρ' G' ∧ step x ρ G = .nx ρ' G') :
    ∀ (j : Nat) (ρ : Rho) (G : Hh), I j ρ G → j ≤ xs.length → ∃ ρ' G', I xs.length ρ' G' ∧ loopRun step (xs.drop j) ρ G = .nx ρ' G' := by
  intro j ρ G hI hj
  induction hm : xs.length - j generalizing j ρ G with
  | zero =>
    have : j = xs.length := by omega
    subst this
    exact ⟨ρ, G, hI, by rw [List.drop_length]; rfl⟩
  | succ m ih =>
    have hlt : j < xs.length := by omega
    obtain ⟨ρ1, G1, h1, h2⟩ := h j xs[j] ρ G (List.getElem?_eq_getElem hlt) hI
    obtain ⟨ρ2, G2, h3, h4⟩ := ih (j + 1) ρ1 G1 h1 (by omega) (by omega)
    refine ⟨ρ2, G2, h3, ?_⟩
    rw [List.drop_eq_getElem_cons hlt]
    simp only [loopRun, h2, sthnNx, h4]
/-! ### while -/
/-- a number is divided as often as this goes -/
theorem wh_ord {t : Rho → Hh → R Bool} {b : Rho → Hh → RS} {p : Int} (hp : 2 ≤ p) (st : Int → Int → Rho) (N : Nat) (ht : ∀ n m G, n ≠ 0 → n.natAbs ≤ N → t (st n m) G = .ok (n % p == 0) G) (hb : ∀ n m G, n ≠ 0 → n.natAbs ≤ N → n % p = 0 → b (st n m) G = .nx (st (n / p) (m + 1)) G) (G : Hh) :
    ∀ (j : Nat) (n m : Int), n ≠ 0 → n.natAbs < 2 ^ j → n.natAbs ≤ N → ∀ F, j < F → whRun t b F (st n m) G = .nx (st (NF.unt n p) (m + ((NF.ord n p : Nat) : Int))) G
  | 0, n, m, hn, hj, _, F, _ => by simp at hj; exact absurd hj hn
  | j + 1, n, m, hn, hj, hN, F, hF => by
    obtain ⟨F, rfl⟩ : ∃ F', F = F' + 1 := ⟨F - 1, by omega⟩
    rw [whRun, ht n m G hn hN, thnOk]
    by_cases h : n % p = 0
    · have hb1 : (n % p == 0) = true := by simpa using h
      rw [hb1, if_pos rfl, hb n m G hn hN h, sthnNx]
      obtain ⟨h0, h1, h2⟩ := NF.div_less hp hn h
      rw [wh_ord hp st N ht hb G j (n / p) (m + 1) h0 (by rw [Nat.pow_succ] at hj; omega) (by omega) F (by omega)]
      obtain ⟨q1, q2⟩ := NF.ord_step hp hn h
      have e : m + 1 + ((NF.ord (n / p) p : Nat) : Int) = m + ((NF.ord n p : Nat) : Int) := by rw [q1]; omega
      rw [e, q2]
    · have hb1 : (n % p == 0) = false := by simpa using h
      obtain ⟨q1, q2⟩ := NF.ord_stop hp hn h
      have e : m + ((NF.ord n p : Nat) : Int) = m := by rw [q1]; omega
      rw [hb1, if_neg Bool.false_ne_true, e, q2]
theorem wfuel_big : 1000 < wfuel := by unfold wfuel; decide
/-! ### a def whose own cells fall away -/
theorem okTr_app (n : Nat) : ∀ (G X : Hh), okTr n G (G ++ X) = true
  | [], _ => rfl
  | c :: G, X => by rw [List.cons_append, okTr, Cell.beq_rfl, okTr_app n G X]; rfl
theorem run_atF {L : Lib} {fs : List Fn} {i : Nat} {F : Fn} (hF : fs[i]? = some F) (hk : F.keep = false) (k : Nat) (vs : List W) (G : Hh) (hl : vs.length = F.ps) {w : W} {X : Hh} (h : exSs L (run L fs k) F.body (vs.map some ++ List.replicate (F.n - F.ps) none) G = .rt w (G ++ X)) (hb : W.blw G.length w = true) :
    run L fs (k + 1) i vs G = .ok w G := by
  simp only [run, hF, if_pos hl, h, fin, hk, Bool.false_eq_true, if_false, okTr_app, hb, Bool.and_self, if_true, List.take_left]
/-- a loop over heaps; what has been gone through is told -/
theorem loop_pg {α : Type} (enc : α → W) (P : List α → Rho → Hh → Prop) (whole : List α) {step : W → Rho → Hh → RS} (h : ∀ (pre : List α) (a : α) (suf : List α) (ρ : Rho) (G : Hh), pre ++ a :: suf = whole → P pre ρ G → ∃ ρ' G', step (enc a) ρ G = .nx ρ' G' ∧ P (pre ++ [a]) ρ' G') :
    ∀ (xs pre : List α) (ρ : Rho) (G : Hh), pre ++ xs = whole → P pre ρ G → ∃ ρ' G', loopRun step (xs.map enc) ρ G = .nx ρ' G' ∧ P whole ρ' G'
  | [], pre, ρ, G, e, h0 => by
    rw [List.append_nil] at e
    subst e
    exact ⟨ρ, G, rfl, h0⟩
  | x :: xs, pre, ρ, G, e, h0 => by
    obtain ⟨ρ1, G1, e1, h1⟩ := h pre x xs ρ G e h0
    obtain ⟨ρ2, G2, e2, h2⟩ := loop_pg enc P whole h xs (pre ++ [x]) ρ1 G1 (by simpa using e) h1
    exact ⟨ρ2, G2, by rw [List.map_cons, loopRun, e1, sthnNx, e2], h2⟩
/-- .. where the heap stays -/
theorem loop_pre {α : Type} (enc : α → W) (P : List α → Rho → Prop) (whole : List α) {step : W → Rho → Hh → RS} {G : Hh} (h : ∀ (pre : List α) (a : α) (suf : List α) (ρ : Rho), pre ++ a :: suf = whole → P pre ρ → ∃ ρ', step (enc a) ρ G = .nx ρ' G ∧ P (pre ++ [a]) ρ') {ρ : Rho} (h0 : P [] ρ) :
    ∃ ρ', loopRun step (whole.map enc) ρ G = .nx ρ' G ∧ P whole ρ' := by
  obtain ⟨ρ', G', e, h1, rfl⟩ := loop_pg enc (fun pre ρ G' => P pre ρ ∧ G' = G) whole (step := step) (fun pre a suf ρ G1 e ⟨hp, hG⟩ => by
    subst hG
    obtain ⟨ρ', e1, h1⟩ := h pre a suf ρ e hp
    exact ⟨ρ', _, e1, h1, rfl⟩) whole [] ρ G (by simp) ⟨h0, rfl⟩
  exact ⟨ρ', e, h1⟩
/-! ### lists of whole numbers beside one another -/
theorem toDs_ints (G : Hh) : ∀ l : List Int, toDs G (l.map W.int) = some (l.map PyData.int)
  | [] => rfl
  | i :: l => by simp only [List.map_cons, toDs, toD, toDs_ints G l]
theorem lay_ints : ∀ l : List Int, PySem.PyData.canLayAll0 (l.map PyData.int) = true
  | [] => by simp [PySem.PyData.canLayAll0]
  | i :: l => by simp [PySem.PyData.canLayAll0, PySem.PyData.canLay0, lay_ints l]
theorem dep_ints : ∀ l : List Int, PySem.PyData.depthAll (l.map PyData.int) ≤ 1
  | [] => by simp [PySem.PyData.depthAll]
  | i :: l => by have := dep_ints l; simp [PySem.PyData.depthAll, PySem.PyData.depth]; omega
theorem eqv_ints : ∀ a b : List Int, PyData.eqvAll (a.map PyData.int) (b.map PyData.int) = decide (a = b)
  | [], [] => by simp [PyData.eqvAll]
  | [], y :: b => by simp [PyData.eqvAll]
  | x :: a, [] => by simp [PyData.eqvAll]
  | x :: a, y :: b => by
    simp only [List.map_cons, PyData.eqvAll, PyData.eqv, eqv_ints a b]
    by_cases h : x = y <;> simp [h]
theorem shp_ints (l : List Int) : PySem.SeqAt.shaped (.list (l.map PyData.int)) = true ∧ PySem.SeqAt.shaped (.tuple (l.map PyData.int)) = true := by
  have h1 := lay_ints l
  have h2 := dep_ints l
  have d1 : PySem.PyData.depth (.list (l.map PyData.int)) ≤ 64 := by simp only [PySem.PyData.depth]; omega
  have d2 : PySem.PyData.depth (.tuple (l.map PyData.int)) ≤ 64 := by simp only [PySem.PyData.depth]; omega
  exact ⟨by simp only [PySem.SeqAt.shaped, PySem.PyData.canLay0, h1, decide_eq_true d1, Bool.and_self], by simp only [PySem.SeqAt.shaped, PySem.PyData.canLay0, h1, decide_eq_true d2, Bool.and_self]⟩
theorem eq_L (a b : List Int) (G : Hh) : evEq (.lst (a.map .int)) (.lst (b.map .int)) G = some (decide (a = b)) := by
  simp only [evEq, strP, evEqD, toDr, toD, toDs_ints, Option.map, (shp_ints a).1, (shp_ints b).1, and_self, if_true, PyData.eqv, eqv_ints]
theorem eq_T (a b : List Int) (G : Hh) : evEq (.tup (a.map .int)) (.tup (b.map .int)) G = some (decide (a = b)) := by
  simp only [evEq, strP, evEqD, toDr, toD, toDs_ints, Option.map, (shp_ints a).2, (shp_ints b).2, and_self, if_true, PyData.eqv, eqv_ints]
theorem c_eqL (a b : List Int) (G : Hh) : evCmp .eq (.lst (a.map .int)) (.lst (b.map .int)) G = some (decide (a = b)) := eq_L a b G
theorem c_neL (a b : List Int) (G : Hh) : evCmp .ne (.lst (a.map .int)) (.lst (b.map .int)) G = some (!decide (a = b)) := by show (evEq _ _ G).map _ = _; rw [eq_L]; rfl
theorem c_eqT (a b : List Int) (G : Hh) : evCmp .eq (.tup (a.map .int)) (.tup (b.map .int)) G = some (decide (a = b)) := eq_T a b G
theorem c_neT (a b : List Int) (G : Hh) : evCmp .ne (.tup (a.map .int)) (.tup (b.map .int)) G = some (!decide (a = b)) := by show (evEq _ _ G).map _ = _; rw [eq_T]; rfl
theorem c_eqL0 (a : List Int) (G : Hh) : evCmp .eq (.lst (a.map .int)) (.lst []) G = some a.isEmpty := by
  have := c_eqL a [] G
  rw [List.map_nil] at this
  rw [this]
  cases a <;> simp
theorem c_neL0 (a : List Int) (G : Hh) : evCmp .ne (.lst (a.map .int)) (.lst []) G = some (!a.isEmpty) := by
  have := c_neL a [] G
  rw [List.map_nil] at this
  rw [this]
  cases a <;> simp
end PI
end

section
set_option autoImplicit false
/-! NS: signs, parts, sizes of forms; no program in sight. -/
namespace NF
def odd (n : Int) : Bool := n % 2 == 1
def rsl (u p : Int) : List Bool := ((List.range (p - 1).toNat).map fun i => (1 : Int) + ((i : Nat) : Int)).map fun x => (x * x - u) % p == 0
def rs (u p : Int) : Int := if (rsl u p).any id = true then 1 else -1
def told2 (a b : Int) : Int := (unt a 2 - 1) / 2 * ((unt b 2 - 1) / 2) + (ord a 2 : Nat) * ((unt b 2 * unt b 2 - 1) / 8) + (ord b 2 : Nat) * ((unt a 2 * unt a 2 - 1) / 8)
def hs2 (a b : Int) : Int := if odd (told2 a b) = true then -1 else 1
def hsp0 (a b p : Int) : Int := if (odd (ord a p : Nat) && (odd (ord b p : Nat) && odd ((p - 1) / 2))) = true then -1 else 1
def hsp1 (a b p : Int) : Int := if odd (ord b p : Nat) = true then hsp0 a b p * rs (unt a p) p else hsp0 a b p
def hsp (a b p : Int) : Int := if odd (ord a p : Nat) = true then hsp1 a b p * rs (unt b p) p else hsp1 a b p
/-- the sign of two numbers at a place -/
def hs (a b p : Int) : Int := if p = 0 then (if (decide (a < 0) && decide (b < 0)) = true then -1 else 1) else if p = 2 then hs2 a b else hsp a b p
def isq (n p : Int) : Bool := if p = 0 then decide (0 < n) else if odd (ord n p : Nat) = true then false else if p = 2 then unt n p % 8 == 1 else rs (unt n p) p == 1
def ordS (form : List Int) (p : Int) : Int := (form.map fun w => ((ord w p : Nat) : Int)).sum
def parA (form : List Int) : Int := prs.foldl (fun f p => if odd (ordS form p) = true then f * p else f) 1
/-- the part of a form -/
def part (form : List Int) : Int := if odd ((form.filter fun w => decide (w < 0)).length : Nat) = true then -parA form else parA form
def above (form : List Int) : Int := ((form.filter fun w => decide (0 < w)).length : Nat)
def size (form : List Int) : Int × Int := (above form, (form.length : Nat) - above form)
def fsg (p : Int) : List Int → Int → Int
  | [], f => f
  | w :: r, f => fsg p r (r.foldl (fun f u => f * hs w u p) f)
/-- the sign of a form at a place -/
def fs (form : List Int) (p : Int) : Int := fsg p form 1
def plc (form : List Int) : List Int := prs.filter fun p => p == 2 || (form.map fun w => w % p == 0).any id
theorem rs_pm (u p : Int) : rs u p = 1 ∨ rs u p = -1 := by
  unfold rs
  split
  · exact .inl rfl
  · exact .inr rfl
theorem pm_mul {a b : Int} (h : a = 1 ∨ a = -1) (h2 : b = 1 ∨ b = -1) : a * b = 1 ∨ a * b = -1 := by
  rcases h with rfl | rfl <;> rcases h2 with rfl | rfl <;> simp
theorem hsp0_pm (a b p : Int) : hsp0 a b p = 1 ∨ hsp0 a b p = -1 := by
  unfold hsp0
  split
  · exact .inr rfl
  · exact .inl rfl
theorem hsp1_pm (a b p : Int) : hsp1 a b p = 1 ∨ hsp1 a b p = -1 := by
  unfold hsp1
  split
  · exact pm_mul (hsp0_pm a b p) (rs_pm _ _)
  · exact hsp0_pm a b p
theorem hsp_pm (a b p : Int) : hsp a b p = 1 ∨ hsp a b p = -1 := by
  unfold hsp
  split
  · exact pm_mul (hsp1_pm a b p) (rs_pm _ _)
  · exact hsp1_pm a b p
theorem hs_pm (a b p : Int) : hs a b p = 1 ∨ hs a b p = -1 := by
  unfold hs
  split
  · split
    · exact .inr rfl
    · exact .inl rfl
  · split
    · unfold hs2
      split
      · exact .inr rfl
      · exact .inl rfl
    · exact hsp_pm a b p
theorem foldl_pm (w p : Int) : ∀ (r : List Int) (f : Int), (f = 1 ∨ f = -1) → (r.foldl (fun f u => f * hs w u p) f = 1 ∨ r.foldl (fun f u => f * hs w u p) f = -1)
  | [], f, h => h
  | u :: r, f, h => foldl_pm w p r _ (pm_mul h (hs_pm w u p))
theorem fsg_pm (p : Int) : ∀ (form : List Int) (f : Int), (f = 1 ∨ f = -1) → (fsg p form f = 1 ∨ fsg p form f = -1)
  | [], f, h => h
  | w :: r, f, h => fsg_pm p r _ (foldl_pm w p r f h)
theorem fs_pm (form : List Int) (p : Int) : fs form p = 1 ∨ fs form p = -1 := fsg_pm p form 1 (.inl rfl)
theorem parA_ne (form : List Int) : parA form ≠ 0 := by
  have key : ∀ (l : List Int) (f : Int), f ≠ 0 → (∀ p ∈ l, p ≠ 0) → l.foldl (fun f p => if odd (ordS form p) = true then f * p else f) f ≠ 0 := by
    intro l
    induction l with
    | nil => intro f h _; exact h
    | cons p l ih =>
      intro f h hp
      rw [List.foldl_cons]
      refine ih _ ?_ fun q hq => hp q (by simp [hq])
      split
      · exact Int.mul_ne_zero h (hp p (by simp))
      · exact h
  exact key prs 1 (by decide) (by decide)
theorem part_ne (form : List Int) : part form ≠ 0 := by
  have := parA_ne form
  unfold part
  split <;> omega
/-! ### nought -/
def least (form : List Int) : Int := if ((form.length : Nat) : Int) - above form < above form then ((form.length : Nat) : Int) - above form else above form
/-- whether a form, its part told, gives nought at a place -/
def givesW (form : List Int) (part p : Int) : Bool :=
  if (p == 0) = true then decide (0 < least form) else
  if (decide (((form.length : Nat) : Int) < 2) || decide (4 < ((form.length : Nat) : Int))) = true then decide (4 < ((form.length : Nat) : Int)) else
  if (((form.length : Nat) : Int) == 2) = true then isq (-part) p else
  if (((form.length : Nat) : Int) == 3) = true then fs form p == hs (-1) (-part) p else
  if isq part p = true then fs form p == hs (-1) (-1) p else true
def look (form : List Int) : List Int := if (((form.length : Nat) : Int) == 2) = true then 0 :: prs else 0 :: plc form
def bars (form : List Int) : List Int := if (((form.length : Nat) : Int) == 1) = true then [0] else (look form).filter fun p => !givesW form (part form) p
def nought (form : List Int) : Bool :=
  if (((form.length : Nat) : Int) == 1) = true then false else
  if (((form.length : Nat) : Int) == 2) = true then part form == -1 else
  if ((least form == 0) || decide (4 < ((form.length : Nat) : Int))) = true then decide (0 < least form) else
  ((0 :: plc form).map fun p => givesW form (part form) p).all id
theorem look_in {form : List Int} {p : Int} (h : p ∈ look form) : p ∈ 0 :: prs := by
  unfold look at h
  split at h
  · exact h
  · rcases List.mem_cons.mp h with z | z
    · simp [z]
    · exact List.mem_cons_of_mem _ (List.mem_filter.mp z).1
theorem plc_in {form : List Int} {p : Int} (h : p ∈ 0 :: plc form) : p ∈ 0 :: prs := by
  rcases List.mem_cons.mp h with z | z
  · simp [z]
  · exact List.mem_cons_of_mem _ (List.mem_filter.mp z).1
theorem zprs_bd : ∀ p ∈ 0 :: prs, (p = 0 ∨ 2 ≤ p) ∧ p ≤ 1000 := by decide
end NF
end

section
set_option autoImplicit false
/-! NE: forms by their parts; squarefree numbers of small primes; no program in sight. -/
namespace NF
/-! ### products of prime powers -/
def pp (e : Int → Nat) : List Int → Int
  | [] => 1
  | p :: l => p ^ e p * pp e l
theorem pp_add (e f : Int → Nat) : ∀ l : List Int, pp (fun p => e p + f p) l = pp e l * pp f l
  | [] => rfl
  | p :: l => by
    simp only [pp, pp_add e f l, Int.pow_add]
    simp only [Int.mul_assoc, Int.mul_left_comm, Int.mul_comm]
theorem pp_congr {e f : Int → Nat} : ∀ {l : List Int}, (∀ p ∈ l, e p = f p) → pp e l = pp f l
  | [], _ => rfl
  | p :: l, h => by rw [pp, pp, h p (by simp), pp_congr (l := l) fun q hq => h q (by simp [hq])]
theorem pp_half (e : Int → Nat) (l : List Int) : pp e l = pp (fun p => e p % 2) l * (pp (fun p => e p / 2) l * pp (fun p => e p / 2) l) := by
  rw [← pp_add, ← pp_add]
  exact pp_congr fun p _ => by omega
theorem pp_pos (e : Int → Nat) : ∀ {l : List Int}, (∀ p ∈ l, 2 ≤ p) → 0 < pp e l
  | [], _ => by simp [pp]
  | p :: l, h => Int.mul_pos (Int.pow_pos (by have := h p (by simp); omega)) (pp_pos e fun q hq => h q (by simp [hq]))
theorem ord_one {p : Int} (hp : 2 ≤ p) : ord 1 p = 0 := (ord_stop hp (by decide) (by rw [Int.emod_eq_of_lt] <;> omega)).1
theorem ord_pow {p q : Int} (P : Pr p) (hq : q ≠ 0) : ∀ k : Nat, ord (q ^ k) p = k * ord q p
  | 0 => by rw [Int.pow_zero, ord_one P.two, Nat.zero_mul]
  | k + 1 => by rw [Int.pow_succ, (ord_mul P (Int.pow_ne_zero hq) hq).1, ord_pow P hq k, Nat.add_mul, Nat.one_mul]
theorem prs_bd2 : ∀ p ∈ prs, 2 ≤ p := by decide
theorem ord_other : ∀ p ∈ prs, ∀ q ∈ prs, ord q p = if q = p then 1 else 0 := by
  have key : (prs.all fun p => prs.all fun q => ord q p == if q = p then 1 else 0) = true := by decide +kernel
  intro p hp q hq
  have h1 := List.all_eq_true.mp (List.all_eq_true.mp key p hp) q hq
  simpa using h1
theorem ord_pp {p : Int} (hp : p ∈ prs) (e : Int → Nat) : ∀ {l : List Int}, l.Nodup → (∀ q ∈ l, q ∈ prs) → ord (pp e l) p = if p ∈ l then e p else 0
  | [], _, _ => ord_one (prs_bd2 p hp)
  | q :: l, hn, hl => by
    have P := prs_pr p hp
    have hq := hl q (by simp)
    have hq2 := prs_bd2 q hq
    have hl' : ∀ q ∈ l, q ∈ prs := fun r hr => hl r (by simp [hr])
    have hpp := pp_pos e fun r hr => prs_bd2 r (hl' r hr)
    rw [pp, (ord_mul P (Int.pow_ne_zero (by omega)) (by omega)).1, ord_pow P (by omega), ord_other p hp q hq, ord_pp hp e (List.nodup_cons.mp hn).2 hl']
    by_cases h : q = p
    · subst h
      rw [if_pos rfl, if_neg (List.nodup_cons.mp hn).1, if_pos (by simp)]
      omega
    · rw [if_neg h]
      by_cases h2 : p ∈ l
      · rw [if_pos h2, if_pos (by simp [h2])]; omega
      · rw [if_neg h2, if_neg (by simp [h2]; exact fun z => h z.symm)]; omega
theorem prs_nodup : prs.Nodup := by decide
theorem ord_ppr {p : Int} (hp : p ∈ prs) (e : Int → Nat) : ord (pp e prs) p = e p := by
  rw [ord_pp hp e prs_nodup fun q h => h, if_pos hp]
/-- coprime to each, coprime to the product -/
theorem cop_pp {d : Nat} (e : Int → Nat) : ∀ {l : List Int}, (∀ p ∈ l, Nat.Coprime d p.natAbs) → Nat.Coprime d (pp e l).natAbs
  | [], _ => by show Nat.Coprime d 1; exact Nat.coprime_one_right d
  | p :: l, h => by
    rw [pp, Int.natAbs_mul, Int.natAbs_pow]
    exact Nat.Coprime.mul_right (Nat.Coprime.pow_right _ (h p (by simp))) (cop_pp e fun q hq => h q (by simp [hq]))
theorem prs_dv : ∀ p ∈ prs, ∀ d : Nat, d ∣ p.natAbs → d = 1 ∨ d = p.natAbs := by
  have key : (prs.all fun p => decide (2 ≤ p.natAbs) && ((List.range p.natAbs).all fun d => d < 2 || p.natAbs % d != 0)) = true := by decide +kernel
  intro p hp
  have h := List.all_eq_true.mp key p hp
  simp only [Bool.and_eq_true, decide_eq_true_eq] at h
  exact dvd_small h.1 h.2
theorem sqf_pp {e : Int → Nat} (h1 : ∀ p ∈ prs, e p ≤ 1) : Sqf (pp e prs) := by
  have hpos := pp_pos e prs_bd2
  refine ⟨by omega, fun d hd => ?_⟩
  have hd1 : d ∣ (pp e prs).natAbs := Nat.dvd_trans ⟨d, rfl⟩ hd
  have hc : Nat.Coprime d (pp e prs).natAbs := cop_pp e fun p hp => by
    rcases prs_dv p hp _ (Nat.gcd_dvd_right d p.natAbs) with z | z
    · exact z
    · exfalso
      -- p divides d, so p * p divides
      have hp2 := prs_bd2 p hp
      have hpd : p.natAbs ∣ d := z ▸ Nat.gcd_dvd_left d p.natAbs
      have hpp : p.natAbs * p.natAbs ∣ (pp e prs).natAbs := Nat.dvd_trans (Nat.mul_dvd_mul hpd hpd) hd
      have hpi : p * p ∣ pp e prs := by
        rw [← Int.natAbs_dvd_natAbs, Int.natAbs_mul]
        exact hpp
      obtain ⟨x, hx⟩ := hpi
      have hx0 : x ≠ 0 := fun z => by rw [z, Int.mul_zero] at hx; omega
      have P := prs_pr p hp
      have o1 : ord (pp e prs) p = ord p p + ord p p + ord x p := by
        rw [hx, (ord_mul P (Int.mul_ne_zero (by omega) (by omega)) hx0).1, (ord_mul P (by omega) (by omega)).1]
      rw [ord_ppr hp, ord_other p hp p hp, if_pos rfl] at o1
      have := h1 p hp
      omega
  have := Nat.Coprime.eq_one_of_dvd hc hd1
  exact this
theorem sqf_neg {n : Int} (h : Sqf n) : Sqf (-n) := ⟨by have := h.1; omega, fun d hd => h.2 d (by rwa [Int.natAbs_neg] at hd)⟩
/-! ### parts -/
def par (form : List Int) (p : Int) : Nat := if odd (ordS form p) = true then 1 else 0
theorem parA_pp (form : List Int) : parA form = pp (par form) prs := by
  have key : ∀ (l : List Int) (f : Int), l.foldl (fun f p => if odd (ordS form p) = true then f * p else f) f = f * pp (par form) l := by
    intro l
    induction l with
    | nil => intro f; simp [pp]
    | cons p l ih =>
      intro f
      rw [List.foldl_cons, ih, pp, par]
      split
      · rw [Int.pow_succ, Int.pow_zero, Int.one_mul, Int.mul_assoc]
      · rw [Int.pow_zero, Int.one_mul]
  have := key prs 1
  rw [Int.one_mul] at this
  exact this
theorem sqf_part (form : List Int) : Sqf (part form) := by
  have h : Sqf (parA form) := by
    rw [parA_pp]
    exact sqf_pp fun p _ => by unfold par; split <;> omega
  unfold part
  split
  · exact sqf_neg h
  · exact h
/-- of small primes alone -/
def Smo (w : Int) : Prop := w ≠ 0 ∧ w.natAbs = (pp (ord w) prs).natAbs
theorem ordS_nat (form : List Int) (p : Int) : ordS form p = (((form.map fun w => ord w p).sum : Nat) : Int) := by
  induction form with
  | nil => rfl
  | cons w r ih =>
    have h : ordS (w :: r) p = ((ord w p : Nat) : Int) + ordS r p := by simp [ordS]
    rw [h, ih, List.map_cons, List.sum_cons]
    omega
theorem par_mod (form : List Int) (p : Int) : par form p = (form.map fun w => ord w p).sum % 2 := by
  unfold par odd
  rw [ordS_nat]
  generalize (form.map fun w => ord w p).sum = s
  have h : (((s : Nat) : Int) % 2 == 1) = decide (s % 2 = 1) := by
    by_cases h : s % 2 = 1
    · have : ((s : Nat) : Int) % 2 = 1 := by omega
      simp [h, this]
    · have : ¬ ((s : Nat) : Int) % 2 = 1 := by omega
      simp [h, this]
  rw [h]
  by_cases h : s % 2 = 1
  · simp [h]
  · simp [h]; omega
theorem part_abs (form : List Int) : (part form).natAbs = (pp (par form) prs).natAbs := by
  unfold part
  rw [parA_pp]
  split <;> simp
def neg (w : Int) : Bool := decide (w < 0)
def negs (form : List Int) : Nat := (form.filter neg).length
theorem part_sign (form : List Int) : part form = if negs form % 2 = 1 then -pp (par form) prs else pp (par form) prs := by
  unfold part
  rw [parA_pp]
  have : (form.filter fun w => decide (w < 0)).length = negs form := rfl
  rw [this]
  unfold odd
  by_cases h : negs form % 2 = 1
  · have : ((negs form : Nat) : Int) % 2 = 1 := by omega
    simp [h, this]
  · have : ¬ ((negs form : Nat) : Int) % 2 = 1 := by omega
    simp [h, this]
/-- a weight more: the part times the weight is the new part times a square -/
theorem part_snoc (form : List Int) {w : Int} (h : Smo w) : ∃ k : Int, k ≠ 0 ∧ part form * w = part (form ++ [w]) * (k * k) := by
  let e : Int → Nat := fun p => par form p + ord w p
  refine ⟨pp (fun p => e p / 2) prs, by have := pp_pos (fun p => e p / 2) prs_bd2; omega, ?_⟩
  have hpar : ∀ p, par (form ++ [w]) p = e p % 2 := fun p => by
    rw [par_mod, List.map_append, List.sum_append]
    show _ = (par form p + ord w p) % 2
    rw [par_mod]
    simp
  have h1 : pp (par form) prs * pp (ord w) prs = pp (par (form ++ [w])) prs * (pp (fun p => e p / 2) prs * pp (fun p => e p / 2) prs) := by
    rw [← pp_add, pp_congr (f := fun p => e p % 2) fun p _ => hpar p]
    exact pp_half e prs
  have hw : w = if neg w = true then -pp (ord w) prs else pp (ord w) prs := by
    have hpos := pp_pos (ord w) prs_bd2
    have h2 := h.2
    unfold neg
    by_cases hn : w < 0
    · rw [if_pos (by simpa using hn)]; omega
    · rw [if_neg (by simpa using hn)]; omega
  have hneg : negs (form ++ [w]) = negs form + if neg w = true then 1 else 0 := by
    unfold negs
    rw [List.filter_append, List.length_append]
    congr 1
    simp only [List.filter_cons, List.filter_nil]
    split <;> rfl
  rw [part_sign, part_sign, hneg]
  conv => lhs; rw [hw]
  by_cases a : negs form % 2 = 1 <;> cases b : neg w
  · have c : (negs form + 0) % 2 = 1 := by omega
    simp only [Bool.false_eq_true, if_false, if_pos a, if_pos c, Int.neg_mul, h1]
  · have c : ¬ (negs form + 1) % 2 = 1 := by omega
    simp only [if_true, if_pos a, if_neg c, Int.neg_mul, Int.mul_neg, Int.neg_neg, h1]
  · have c : ¬ (negs form + 0) % 2 = 1 := by omega
    simp only [Bool.false_eq_true, if_false, if_neg a, if_neg c, h1]
  · have c : (negs form + 1) % 2 = 1 := by omega
    simp only [if_true, if_neg a, if_pos c, Int.neg_mul, Int.mul_neg, h1]
theorem part_nil : part [] = 1 := by decide +kernel
/-- weights are smooth -/
theorem smo_small : ∀ w : Int, w ≠ 0 → w.natAbs ≤ 99 → Smo w := by
  have key : ((List.range 199).all fun i => let w : Int := (i : Nat) - 99; w == 0 || decide (w.natAbs = (pp (ord w) prs).natAbs)) = true := by decide +kernel
  intro w h0 h
  have h1 := List.all_eq_true.mp key (w + 99).toNat (List.mem_range.mpr (by omega))
  have e : (((w + 99).toNat : Nat) : Int) - 99 = w := by omega
  simp only [e, Bool.or_eq_true, decide_eq_true_eq, beq_iff_eq] at h1
  exact ⟨h0, h1.resolve_left h0⟩
theorem core_uniq {n c c' k k' : Int} (h : n = c * (k * k)) (h' : n = c' * (k' * k')) (hk : k ≠ 0) (hk' : k' ≠ 0) (s : Sqf c) (s' : Sqf c') : c = c' := sqf_uniq (h.symm.trans h') hk hk' s s'
theorem part_bd (form : List Int) (h : ∀ w ∈ form, Smo w) : (part form).natAbs ≤ (form.map Int.natAbs).foldr (· * ·) 1 := by
  induction hl : form.length generalizing form with
  | zero =>
    have : form = [] := List.length_eq_zero_iff.mp hl
    subst this
    rw [part_nil]
    decide
  | succ n ih =>
    obtain ⟨F, w, rfl⟩ : ∃ F w, form = F ++ [w] := ⟨form.dropLast, form.getLast (fun z => by rw [z] at hl; simp at hl), (List.dropLast_concat_getLast _).symm⟩
    obtain ⟨k, hk, e⟩ := part_snoc F (h w (by simp))
    have h1 := ih F (fun x hx => h x (by simp [hx])) (by simpa using hl)
    have e2 : (part F).natAbs * w.natAbs = (part (F ++ [w])).natAbs * (k.natAbs * k.natAbs) := by rw [← Int.natAbs_mul, ← Int.natAbs_mul, ← Int.natAbs_mul, e]
    have h2 : 1 ≤ k.natAbs * k.natAbs := Nat.mul_le_mul (show 1 ≤ k.natAbs by omega) (show 1 ≤ k.natAbs by omega)
    have h3 : (part (F ++ [w])).natAbs * 1 ≤ (part (F ++ [w])).natAbs * (k.natAbs * k.natAbs) := Nat.mul_le_mul_left _ h2
    have h4 : (part F).natAbs * w.natAbs ≤ (F.map Int.natAbs).foldr (· * ·) 1 * w.natAbs := Nat.mul_le_mul_right _ h1
    have h5 : ((F ++ [w]).map Int.natAbs).foldr (· * ·) 1 = (F.map Int.natAbs).foldr (· * ·) 1 * w.natAbs := by
      rw [List.map_append, List.foldr_append]
      generalize F.map Int.natAbs = l
      induction l with
      | nil => simp
      | cons a l ih => simp only [List.foldr_cons, ih, Nat.mul_assoc]
    rw [h5]
    omega
/-! ### signs of a form, pair by pair -/
theorem hs_symm (a b p : Int) : hs a b p = hs b a p := by
  unfold hs
  split
  · rw [Bool.and_comm]
  · split
    · unfold hs2 told2
      congr 2
      congr 1
      rw [Int.mul_comm ((unt a 2 - 1) / 2)]
      omega
    · have r1 := rs_pm (unt a p) p
      have r2 := rs_pm (unt b p) p
      unfold hsp hsp1 hsp0
      rcases r1 with r1 | r1 <;> rcases r2 with r2 | r2 <;> cases h1 : odd (ord a p : Nat) <;> cases h2 : odd (ord b p : Nat) <;> cases h3 : odd ((p - 1) / 2) <;> simp [r1, r2]
/-- the product of signs of a weight with some others -/
def rowP (w p : Int) (l : List Int) : Int := l.foldl (fun f u => f * hs w u p) 1
theorem foldl_mul (w p : Int) : ∀ (l : List Int) (f : Int), l.foldl (fun f u => f * hs w u p) f = f * rowP w p l
  | [], f => by simp [rowP]
  | u :: l, f => by
    have e : rowP w p (u :: l) = 1 * hs w u p * rowP w p l := foldl_mul w p l (1 * hs w u p)
    rw [List.foldl_cons, foldl_mul w p l (f * hs w u p), e, Int.one_mul, Int.mul_assoc]
theorem rowP_cons (w p u : Int) (l : List Int) : rowP w p (u :: l) = hs w u p * rowP w p l := by
  show (u :: l).foldl _ 1 = _
  rw [List.foldl_cons, foldl_mul, Int.one_mul]
theorem fsg_mul (p : Int) : ∀ (l : List Int) (f : Int), fsg p l f = f * fsg p l 1
  | [], f => by simp [fsg]
  | w :: l, f => by
    rw [fsg, fsg, fsg_mul p l, fsg_mul p l (l.foldl _ 1), foldl_mul, foldl_mul w p l 1, Int.one_mul, Int.mul_assoc]
theorem fs_snoc (p w : Int) : ∀ F : List Int, fs (F ++ [w]) p = fs F p * rowP w p F
  | [] => by simp [fs, fsg, rowP]
  | u :: F => by
    have ih := fs_snoc p w F
    unfold fs at ih ⊢
    show fsg p (u :: (F ++ [w])) 1 = fsg p (u :: F) 1 * rowP w p (u :: F)
    rw [fsg, fsg, fsg_mul p (F ++ [w]), fsg_mul p F, ih, foldl_mul, foldl_mul u p F, rowP_cons, Int.one_mul, Int.one_mul]
    have e : rowP u p (F ++ [w]) = rowP u p F * hs u w p := by
      unfold rowP
      rw [List.foldl_append]
      rfl
    rw [e, hs_symm u w]
    simp only [Int.mul_assoc, Int.mul_left_comm, Int.mul_comm]
end NF
end

section
set_option autoImplicit false
namespace PI
open PySem (Str PyData)
def Ix : Type := Nat → Nat
def Ix.desks_Desk_bars (I : Ix) : Nat := I 52
def Ix.noughts_bars_by (I : Ix) : Nat := I 51
def Ix.c_desks_Desk (I : Ix) : Nat := I 1
def Ix.desks_Desk_do (I : Ix) : Nat := I 41
def Ix.desks_check_deed (I : Ix) : Nat := I 16
def Ix.desks_reason_against (I : Ix) : Nat := I 39
def Ix.x_errors_Barred (I : Ix) : Nat := I 40
def Ix.desks_form_behind (I : Ix) : Nat := I 37
def Ix.desks_Desk_init (I : Ix) : Nat := I 2
def Ix.desks_Desk_may_put (I : Ix) : Nat := I 47
def Ix.signs_check_weight (I : Ix) : Nat := I 46
def Ix.desks_has_form (I : Ix) : Nat := I 8
def Ix.x_errors_InvalidDeed (I : Ix) : Nat := I 9
def Ix.signs_is_weight (I : Ix) : Nat := I 14
def Ix.values_is_number (I : Ix) : Nat := I 15
def Ix.values_is_string (I : Ix) : Nat := I 6
def Ix.d_desks_SIZES (I : Ix) : Nat := I 7
def Ix.desks_reason_by_itself (I : Ix) : Nat := I 22
def Ix.noughts_gives_nought_by (I : Ix) : Nat := I 36
def Ix.g_desks_NOUGHT (I : Ix) : Nat := I 38
def Ix.g_desks_MOST_HERE (I : Ix) : Nat := I 17
def Ix.g_desks_FULL (I : Ix) : Nat := I 18
def Ix.g_desks_NONE (I : Ix) : Nat := I 19
def Ix.g_desks_ONE (I : Ix) : Nat := I 20
def Ix.g_desks_SAME (I : Ix) : Nat := I 21
def Ix.lawE_after (I : Ix) : Nat := I 44
def Ix.lawE_barred (I : Ix) : Nat := I 43
def Ix.m_desks_Desk_do (I : Ix) : Nat := I 42
def Ix.lawE_bars (I : Ix) : Nat := I 74
def Ix.lawE_primes (I : Ix) : Nat := I 62
def Ix.lawE_places (I : Ix) : Nat := I 63
def Ix.lawE_nought_at (I : Ix) : Nat := I 71
def Ix.lawE_core (I : Ix) : Nat := I 61
def Ix.lawE_deed (I : Ix) : Nat := I 5
def Ix.lawE_draw (I : Ix) : Nat := I 3
def Ix.lawE_weight (I : Ix) : Nat := I 4
def Ix.lawE_due (I : Ix) : Nat := I 75
def Ix.lawE_reason (I : Ix) : Nat := I 73
def Ix.lawE_form_sign (I : Ix) : Nat := I 69
def Ix.lawE_sign (I : Ix) : Nat := I 68
def Ix.lawE_gives_nought (I : Ix) : Nat := I 72
def Ix.lawE_index (I : Ix) : Nat := I 58
def Ix.x_errors_FormError (I : Ix) : Nat := I 57
def Ix.lawE_is_square (I : Ix) : Nat := I 70
def Ix.lawE_out (I : Ix) : Nat := I 66
def Ix.lawE_rest_sign (I : Ix) : Nat := I 67
def Ix.lawE_size (I : Ix) : Nat := I 64
def Ix.lawE_part (I : Ix) : Nat := I 65
def Ix.lawE_odd (I : Ix) : Nat := I 56
def Ix.lawE_pick (I : Ix) : Nat := I 55
def Ix.lawE_pool (I : Ix) : Nat := I 60
def Ix.lawE_right (I : Ix) : Nat := I 59
def Ix.lawE_told (I : Ix) : Nat := I 54
def Ix.lawE_right_1 (I : Ix) : Nat := I 76
def Ix.m_desks_Desk_bars (I : Ix) : Nat := I 53
def Ix.m_desks_Desk_may_put (I : Ix) : Nat := I 48
def Ix.signs_part_by (I : Ix) : Nat := I 26
def Ix.noughts_looked_at (I : Ix) : Nat := I 50
def Ix.noughts_gives_with (I : Ix) : Nat := I 35
def Ix.signs_size_by (I : Ix) : Nat := I 27
def Ix.signs_places_by (I : Ix) : Nat := I 28
def Ix.signs_is_square_by (I : Ix) : Nat := I 30
def Ix.signs_form_sign_by (I : Ix) : Nat := I 34
def Ix.signs_sign_by (I : Ix) : Nat := I 33
def Ix.g_signs_PLACES (I : Ix) : Nat := I 49
def Ix.x_errors_InvalidNumber (I : Ix) : Nat := I 45
def Ix.signs_is_nonzero (I : Ix) : Nat := I 12
def Ix.values_is_between (I : Ix) : Nat := I 11
def Ix.signs_is_odd (I : Ix) : Nat := I 24
def Ix.signs_parted_by (I : Ix) : Nat := I 25
def Ix.signs_rest_sign (I : Ix) : Nat := I 29
def Ix.g_signs_MOST_WEIGHT (I : Ix) : Nat := I 13
def Ix.g_signs_PRIMES (I : Ix) : Nat := I 23
def Ix.signs_sign_at_odd (I : Ix) : Nat := I 32
def Ix.signs_sign_at_two (I : Ix) : Nat := I 31
def Ix.values_is_whole (I : Ix) : Nat := I 10
def b_desks_Desk_bars (I : Ix) : ISs := (.cons (.ret (.call I.noughts_bars_by (.cons (.fld (.v 0) I.c_desks_Desk 0) .nil) [])) .nil)
def f_desks_Desk_bars (I : Ix) : Fn := ⟨1, 1, true, b_desks_Desk_bars I⟩
def b_desks_Desk_do (I : Ix) : ISs := (.cons (.drop (.call I.desks_check_deed (.cons (.v 1) .nil) [])) (.cons (.asg 2 (.call I.desks_reason_against (.cons (.fld (.v 0) I.c_desks_Desk 0) (.cons (.v 1) .nil)) [])) (.cons (.cond (.val (.cmp .notN (.v 2) .non)) (.cons (.raise1 I.x_errors_Barred (.v 2)) .nil) .nil) (.cons (.append (.fld (.v 0) I.c_desks_Desk 2) (.fld (.v 0) I.c_desks_Desk 0)) (.cons (.setF (.v 0) I.c_desks_Desk 0 (.call I.desks_form_behind (.cons (.fld (.v 0) I.c_desks_Desk 0) (.cons (.v 1) .nil)) [])) (.cons (.setF (.v 0) I.c_desks_Desk 1 (.op .add (.fld (.v 0) I.c_desks_Desk 1) (.tup (.cons (.v 1) .nil)))) .nil))))))
def f_desks_Desk_do (I : Ix) : Fn := ⟨2, 3, true, b_desks_Desk_do I⟩
def b_desks_Desk_init (I : Ix) : ISs := (.cons (.setF (.v 0) I.c_desks_Desk 0 (.tup (.cons (.int 1) .nil))) (.cons (.setF (.v 0) I.c_desks_Desk 1 (.tup .nil)) (.cons (.setF (.v 0) I.c_desks_Desk 2 (.lst true .nil)) .nil)))
def f_desks_Desk_init (I : Ix) : Fn := ⟨1, 1, true, b_desks_Desk_init I⟩
def b_desks_Desk_may_put (I : Ix) : ISs := (.cons (.drop (.call I.signs_check_weight (.cons (.v 1) .nil) [])) (.cons (.ret (.cmp .isN (.call I.desks_reason_against (.cons (.fld (.v 0) I.c_desks_Desk 0) (.cons (.tup (.cons (.str (Str.ofString "put")) (.cons (.v 1) .nil))) .nil)) []) .non)) .nil))
def f_desks_Desk_may_put (I : Ix) : Fn := ⟨2, 2, true, b_desks_Desk_may_put I⟩
def b_desks_check_deed (I : Ix) : ISs := (.cons (.cond (.not (.tru (.call I.desks_has_form (.cons (.v 0) .nil) []))) (.cons (.raise1 I.x_errors_InvalidDeed (.int 0)) .nil) .nil) (.cons (.asg 1 (.ife (.val (.cmp .eq (.ix (.v 0) (.int 0)) (.str (Str.ofString "put")))) (.call I.signs_is_weight (.cons (.ix (.v 0) (.int 1)) .nil) []) (.call I.values_is_number (.cons (.ix (.v 0) (.int 1)) .nil) [.int 0, .non]))) (.cons (.cond (.not (.tru (.v 1))) (.cons (.raise1 I.x_errors_InvalidDeed (.int 1)) .nil) .nil) (.cons (.cond (.and (.val (.cmp .eq (.ix (.v 0) (.int 0)) (.str (Str.ofString "turn")))) (.not (.tru (.call I.signs_is_weight (.cons (.ix (.v 0) (.int 2)) .nil) [])))) (.cons (.raise1 I.x_errors_InvalidDeed (.int 2)) .nil) .nil) .nil))))
def f_desks_check_deed (I : Ix) : Fn := ⟨1, 2, true, b_desks_check_deed I⟩
def b_desks_form_behind (I : Ix) : ISs := (.cons (.cond (.val (.cmp .eq (.ix (.v 1) (.int 0)) (.str (Str.ofString "put")))) (.cons (.ret (.tup (.star (.v 0) (.cons (.ix (.v 1) (.int 1)) .nil)))) .nil) .nil) (.cons (.asg 2 (.ife (.val (.cmp .eq (.ix (.v 1) (.int 0)) (.str (Str.ofString "take")))) (.tup .nil) (.tup (.cons (.ix (.v 1) (.int 2)) .nil)))) (.cons (.ret (.tup (.star (.sl (.v 0) .no (.yes (.ix (.v 1) (.int 1)))) (.star (.v 2) (.star (.sl (.v 0) (.yes (.op .add (.ix (.v 1) (.int 1)) (.int 1))) .no) .nil))))) .nil)))
def f_desks_form_behind (I : Ix) : Fn := ⟨2, 3, true, b_desks_form_behind I⟩
def b_desks_has_form (I : Ix) : ISs := (.cons (.cond (.or (.not (.tru (.isT .tup (.v 0)))) (.or (.val (.cmp .eq (.bi .len (.cons (.v 0) .nil)) (.int 0))) (.not (.tru (.call I.values_is_string (.cons (.ix (.v 0) (.int 0)) .nil) []))))) (.cons (.ret (.bl false)) .nil) .nil) (.cons (.ret (.andV (.inG (.ix (.v 0) (.int 0)) I.d_desks_SIZES) (.cmp .eq (.bi .len (.cons (.v 0) .nil)) (.ixG I.d_desks_SIZES (.ix (.v 0) (.int 0)))))) .nil))
def f_desks_has_form (I : Ix) : Fn := ⟨1, 1, true, b_desks_has_form I⟩
def b_desks_reason_against (I : Ix) : ISs := (.cons (.asg 2 (.call I.desks_reason_by_itself (.cons (.v 0) (.cons (.v 1) .nil)) [])) (.cons (.cond (.or (.val (.cmp .notN (.v 2) .non)) (.val (.cmp .eq (.ix (.v 1) (.int 0)) (.str (Str.ofString "take"))))) (.cons (.ret (.v 2)) .nil) .nil) (.cons (.ret (.ife (.tru (.call I.noughts_gives_nought_by (.cons (.call I.desks_form_behind (.cons (.v 0) (.cons (.v 1) .nil)) []) .nil) [])) (.g I.g_desks_NOUGHT) .non)) .nil)))
def f_desks_reason_against (I : Ix) : Fn := ⟨2, 3, true, b_desks_reason_against I⟩
def b_desks_reason_by_itself (I : Ix) : ISs := (.cons (.cond (.val (.cmp .eq (.ix (.v 1) (.int 0)) (.str (Str.ofString "put")))) (.cons (.ret (.ife (.val (.cmp .eq (.bi .len (.cons (.v 0) .nil)) (.g I.g_desks_MOST_HERE))) (.g I.g_desks_FULL) .non)) .nil) .nil) (.cons (.cond (.val (.cmp .ge (.ix (.v 1) (.int 1)) (.bi .len (.cons (.v 0) .nil)))) (.cons (.ret (.g I.g_desks_NONE)) .nil) .nil) (.cons (.cond (.val (.cmp .eq (.ix (.v 1) (.int 0)) (.str (Str.ofString "take")))) (.cons (.ret (.ife (.val (.cmp .eq (.bi .len (.cons (.v 0) .nil)) (.int 1))) (.g I.g_desks_ONE) .non)) .nil) .nil) (.cons (.ret (.ife (.val (.cmp .eq (.ix (.v 0) (.ix (.v 1) (.int 1))) (.ix (.v 1) (.int 2)))) (.g I.g_desks_SAME) .non)) .nil))))
def f_desks_reason_by_itself (I : Ix) : Fn := ⟨2, 2, true, b_desks_reason_by_itself I⟩
def b_lawE_after (I : Ix) : ISs := (.cons (.cond (.val (.cmp .eq (.ix (.v 1) (.int 0)) (.str (Str.ofString "put")))) (.cons (.ret (.op .add (.v 0) (.tup (.cons (.ix (.v 1) (.int 1)) .nil)))) .nil) .nil) (.cons (.asg 2 (.ife (.val (.cmp .eq (.ix (.v 1) (.int 0)) (.str (Str.ofString "turn")))) (.tup (.cons (.ix (.v 1) (.int 2)) .nil)) (.tup .nil))) (.cons (.ret (.op .add (.op .add (.sl (.v 0) .no (.yes (.ix (.v 1) (.int 1)))) (.v 2)) (.sl (.v 0) (.yes (.op .add (.ix (.v 1) (.int 1)) (.int 1))) .no))) .nil)))
def f_lawE_after (I : Ix) : Fn := ⟨2, 3, true, b_lawE_after I⟩
def b_lawE_barred (I : Ix) : ISs := (.cons (.tryx (.cons (.drop (.meth (.v 0) I.m_desks_Desk_do (.cons (.v 1) .nil))) .nil) [(I.x_errors_Barred, .fld I.x_errors_Barred)]) (.cons (.ret (.str (Str.ofString ""))) .nil))
def f_lawE_barred (I : Ix) : Fn := ⟨2, 3, true, b_lawE_barred I⟩
def b_lawE_bars (I : Ix) : ISs := (.cons (.cond (.val (.cmp .eq (.bi .len (.cons (.v 0) .nil)) (.int 1))) (.cons (.ret (.tup (.cons (.int 0) .nil))) .nil) .nil) (.cons (.asg 1 (.ife (.val (.cmp .eq (.bi .len (.cons (.v 0) .nil)) (.int 2))) (.op .add (.lst false (.cons (.int 0) .nil)) (.call I.lawE_primes .nil [])) (.call I.lawE_places (.cons (.v 0) .nil) []))) (.cons (.ret (.bi .tuple (.cons (.lc [2] (.nm 2) (.seq (.v 1)) (.not (.tru (.call I.lawE_nought_at (.cons (.v 0) (.cons (.v 2) .nil)) []))) (.v 2)) .nil))) .nil)))
def f_lawE_bars (I : Ix) : Fn := ⟨1, 3, true, b_lawE_bars I⟩
def b_lawE_core (I : Ix) : ISs := (.cons (.par 1 2 (.v 0) (.int 2)) (.cons (.wh (.val (.cmp .le (.op .mul (.v 2) (.v 2)) (.bi .abs (.cons (.v 1) .nil)))) (.cons (.cond (.val (.cmp .eq (.op .mod (.bi .int (.cons (.v 1) .nil)) (.op .mul (.v 2) (.v 2))) (.int 0))) (.cons (.asg 1 (.op .fdiv (.v 1) (.op .mul (.v 2) (.v 2)))) .nil) (.cons (.asg 2 (.op .add (.v 2) (.int 1))) .nil)) .nil)) (.cons (.ret (.v 1)) .nil)))
def f_lawE_core (I : Ix) : Fn := ⟨1, 3, true, b_lawE_core I⟩
def b_lawE_deed (I : Ix) : ISs := (.cons (.asg 2 (.call I.lawE_draw (.cons (.v 0) (.cons (.int 6) .nil)) [])) (.cons (.cond (.val (.cmp .eq (.v 2) (.int 0))) (.cons (.ret (.tup (.cons (.str (Str.ofString "take")) (.cons (.call I.lawE_draw (.cons (.v 0) (.cons (.op .add (.bi .len (.cons (.v 1) .nil)) (.int 1)) .nil)) []) .nil)))) .nil) .nil) (.cons (.cond (.val (.cmp .lt (.v 2) (.int 3))) (.cons (.ret (.tup (.cons (.str (Str.ofString "turn")) (.cons (.call I.lawE_draw (.cons (.v 0) (.cons (.op .add (.bi .len (.cons (.v 1) .nil)) (.bi .int (.cons (.cmp .eq (.v 2) (.int 1)) .nil))) .nil)) []) (.cons (.call I.lawE_weight (.cons (.v 0) (.cons (.int 12) .nil)) []) .nil))))) .nil) .nil) (.cons (.asg 3 (.call I.lawE_weight (.cons (.v 0) (.cons (.int 15) .nil)) [])) (.cons (.ret (.tup (.cons (.str (Str.ofString "put")) (.cons (.ife (.val (.cmp .lt (.v 2) (.int 5))) (.v 3) (.op .mul (.bi .abs (.cons (.v 3) .nil)) (.op .sub (.int 1) (.op .mul (.int 2) (.bi .int (.cons (.cmp .lt (.ix (.v 1) (.int 0)) (.int 0)) .nil)))))) .nil)))) .nil)))))
def f_lawE_deed (I : Ix) : Fn := ⟨2, 4, true, b_lawE_deed I⟩
def b_lawE_draw (I : Ix) : ISs := (.cons (.cond (.val (.cmp .gt (.ix (.v 0) (.int 1)) (.int 0))) (.cons (.unp (.sub (.v 0) (.int 1) (.nm 2 .nil)) (.bi .divmod (.cons (.ix (.v 0) (.int 1)) (.cons (.v 1) .nil)))) (.cons (.ret (.v 2)) .nil)) .nil) (.cons (.setL (.v 0) (.int 2) (.op .add (.ix (.v 0) (.int 2)) (.int 1))) (.cons (.asg 3 (.bi .int (.cons (.ix (.v 0) (.int 0)) .nil))) (.cons (.setL (.v 0) (.int 0) (.op .mod (.bi .int (.cons (.op .add (.op .add (.op .mul (.v 3) (.op .add (.op .mod (.v 3) (.int 20011)) (.int 30011))) (.op .mul (.int 70001) (.ix (.v 0) (.int 2)))) (.int 9)) .nil)) (.int 2147482937))) (.cons (.ret (.op .mod (.bi .int (.cons (.op .fdiv (.ix (.v 0) (.int 0)) (.int 128)) .nil)) (.v 1))) .nil)))))
def f_lawE_draw (I : Ix) : Fn := ⟨2, 4, true, b_lawE_draw I⟩
def b_lawE_due (I : Ix) : ISs := (.cons (.asg 2 (.lc [1] (.nm 1) (.seq (.lst false (.cons (.int 1) (.cons (.neg (.int 1)) (.cons (.int 2) (.cons (.neg (.int 3)) (.cons (.int 5) (.cons (.neg (.int 7)) (.cons (.int 12) .nil))))))))) .yes (.cmp .eq (.call I.lawE_reason (.cons (.v 0) (.cons (.tup (.cons (.str (Str.ofString "put")) (.cons (.v 1) .nil))) .nil)) []) (.str (Str.ofString ""))))) (.cons (.ret (.lst false (.cons (.v 0) (.cons (.call I.lawE_bars (.cons (.v 0) .nil) []) (.cons (.v 2) .nil))))) .nil))
def f_lawE_due (I : Ix) : Fn := ⟨1, 3, true, b_lawE_due I⟩
def b_lawE_form_sign (I : Ix) : ISs := (.cons (.asg 2 (.int 1)) (.cons (.loop (.nm 3) (.r1 (.bi .len (.cons (.v 0) .nil))) (.cons (.loop (.nm 4) (.r1 (.v 3)) (.cons (.asg 2 (.op .mul (.v 2) (.call I.lawE_sign (.cons (.ix (.v 0) (.v 3)) (.cons (.ix (.v 0) (.v 4)) (.cons (.v 1) .nil))) []))) .nil)) .nil)) (.cons (.ret (.v 2)) .nil)))
def f_lawE_form_sign (I : Ix) : Fn := ⟨2, 5, true, b_lawE_form_sign I⟩
def b_lawE_gives_nought (I : Ix) : ISs := (.cons (.cond (.val (.cmp .eq (.bi .len (.cons (.v 0) .nil)) (.int 2))) (.cons (.ret (.cmp .eq (.call I.lawE_core (.cons (.op .mul (.ix (.v 0) (.int 0)) (.ix (.v 0) (.int 1))) .nil) []) (.neg (.int 1)))) .nil) .nil) (.cons (.ret (.andV (.cmp .gt (.bi .len (.cons (.v 0) .nil)) (.int 1)) (.cmp .eq (.lc [1] (.nm 1) (.seq (.call I.lawE_places (.cons (.v 0) .nil) [])) (.not (.tru (.call I.lawE_nought_at (.cons (.v 0) (.cons (.v 1) .nil)) []))) (.v 1)) (.lst false .nil)))) .nil))
def f_lawE_gives_nought (I : Ix) : Fn := ⟨1, 2, true, b_lawE_gives_nought I⟩
def b_lawE_index (I : Ix) : ISs := (.cons (.tryx (.cons (.drop (.meth (.v 0) I.m_desks_Desk_do (.cons (.v 1) .nil))) .nil) [(I.x_errors_InvalidDeed, .ife (.isx I.x_errors_FormError) (.fld I.x_errors_InvalidDeed) (.c (.str (Str.ofString "odd")))), (I.x_errors_Barred, .c (.non))]) (.cons (.ret .non) .nil))
def f_lawE_index (I : Ix) : Fn := ⟨2, 3, true, b_lawE_index I⟩
def b_lawE_is_square (I : Ix) : ISs := (.cons (.cond (.val (.cmp .eq (.v 1) (.int 0))) (.cons (.ret (.cmp .gt (.v 0) (.int 0))) .nil) .nil) (.cons (.unp (.nm 3 (.nm 2 .nil)) (.call I.lawE_out (.cons (.v 0) (.cons (.v 1) .nil)) [])) (.cons (.cond (.val (.cmp .eq (.op .mod (.bi .int (.cons (.v 3) .nil)) (.int 2)) (.int 1))) (.cons (.ret (.bl false)) .nil) .nil) (.cons (.ret (.ife (.val (.cmp .eq (.v 1) (.int 2))) (.cmp .eq (.op .mod (.bi .int (.cons (.v 2) .nil)) (.int 8)) (.int 1)) (.cmp .eq (.call I.lawE_rest_sign (.cons (.v 2) (.cons (.v 1) .nil)) []) (.int 1)))) .nil))))
def f_lawE_is_square (I : Ix) : Fn := ⟨2, 4, true, b_lawE_is_square I⟩
def b_lawE_nought_at (I : Ix) : ISs := (.cons (.cond (.val (.cmp .eq (.v 1) (.int 0))) (.cons (.ret (.cmp .notIn (.int 0) (.call I.lawE_size (.cons (.v 0) .nil) []))) .nil) .nil) (.cons (.par 2 3 (.call I.lawE_part (.cons (.v 0) .nil) []) (.call I.lawE_form_sign (.cons (.v 0) (.cons (.v 1) .nil)) [])) (.cons (.cond (.val (.cmp .lt (.bi .len (.cons (.v 0) .nil)) (.int 2))) (.cons (.ret (.bl false)) .nil) .nil) (.cons (.cond (.val (.cmp .eq (.bi .len (.cons (.v 0) .nil)) (.int 2))) (.cons (.ret (.call I.lawE_is_square (.cons (.neg (.v 2)) (.cons (.v 1) .nil)) [])) .nil) .nil) (.cons (.cond (.val (.cmp .eq (.bi .len (.cons (.v 0) .nil)) (.int 3))) (.cons (.ret (.cmp .eq (.v 3) (.call I.lawE_sign (.cons (.neg (.int 1)) (.cons (.neg (.v 2)) (.cons (.v 1) .nil))) []))) .nil) .nil) (.cons (.ret (.orV (.cmp .gt (.bi .len (.cons (.v 0) .nil)) (.int 4)) (.orV (.notV (.call I.lawE_is_square (.cons (.v 2) (.cons (.v 1) .nil)) [])) (.cmp .eq (.v 3) (.call I.lawE_sign (.cons (.neg (.int 1)) (.cons (.neg (.int 1)) (.cons (.v 1) .nil))) []))))) .nil))))))
def f_lawE_nought_at (I : Ix) : Fn := ⟨2, 4, true, b_lawE_nought_at I⟩
def b_lawE_odd (I : Ix) : ISs := (.cons (.par 1 2 (.call I.lawE_pick (.cons (.v 0) (.cons (.lst false (.cons (.int 0) (.cons (.int 100) (.cons (.neg (.int 100)) (.cons .non (.cons (.str (Str.ofString "1")) (.cons (.bl true) (.cons (.tup (.cons (.int 1) .nil)) .nil)))))))) .nil)) []) (.call I.lawE_pick (.cons (.v 0) (.cons (.lst false (.cons (.neg (.int 1)) (.cons .non (.cons (.str (Str.ofString "0")) (.cons (.bl true) (.cons (.tup (.cons (.int 0) .nil)) .nil)))))) .nil)) [])) (.cons (.asg 3 (.lst false (.cons (.tup (.cons (.tup (.cons (.str (Str.ofString "put")) (.cons (.v 1) .nil))) (.cons (.int 1) .nil))) (.cons (.tup (.cons (.tup (.cons (.str (Str.ofString "put")) .nil)) (.cons (.int 0) .nil))) (.cons (.tup (.cons (.tup (.cons (.str (Str.ofString "put")) (.cons (.int 1) (.cons (.int 1) .nil)))) (.cons (.int 0) .nil))) (.cons (.tup (.cons (.tup (.cons (.str (Str.ofString "take")) (.cons (.v 2) .nil))) (.cons (.int 1) .nil))) (.cons (.tup (.cons (.tup (.cons (.str (Str.ofString "take")) .nil)) (.cons (.int 0) .nil))) .nil))))))) (.cons (.asg 3 (.op .add (.v 3) (.lst false (.cons (.tup (.cons (.tup (.cons (.str (Str.ofString "take")) (.cons (.int 0) (.cons (.int 0) .nil)))) (.cons (.int 0) .nil))) .nil)))) (.cons (.asg 3 (.op .add (.v 3) (.lst false (.cons (.tup (.cons (.tup (.cons (.str (Str.ofString "turn")) (.cons (.v 2) (.cons (.int 1) .nil)))) (.cons (.int 1) .nil))) (.cons (.tup (.cons (.tup (.cons (.str (Str.ofString "turn")) (.cons (.v 2) (.cons (.v 1) .nil)))) (.cons (.int 1) .nil))) (.cons (.tup (.cons (.tup (.cons (.str (Str.ofString "turn")) (.cons (.int 0) (.cons (.v 1) .nil)))) (.cons (.int 2) .nil))) (.cons (.tup (.cons (.tup (.cons (.str (Str.ofString "turn")) (.cons (.int 0) .nil))) (.cons (.int 0) .nil))) (.cons (.tup (.cons (.tup .nil) (.cons (.int 0) .nil))) .nil)))))))) (.cons (.asg 3 (.op .add (.v 3) (.lst false (.cons (.tup (.cons .non (.cons (.int 0) .nil))) (.cons (.tup (.cons (.lst false (.cons (.str (Str.ofString "put")) (.cons (.int 1) .nil))) (.cons (.int 0) .nil))) (.cons (.tup (.cons (.str (Str.ofString "put")) (.cons (.int 0) .nil))) (.cons (.tup (.cons (.tup (.cons (.str (Str.ofString "Put")) (.cons (.int 1) .nil))) (.cons (.int 0) .nil))) (.cons (.tup (.cons (.tup (.cons (.int 5) (.cons (.int 1) .nil))) (.cons (.int 0) .nil))) .nil)))))))) (.cons (.ret (.call I.lawE_pick (.cons (.v 0) (.cons (.op .add (.v 3) (.lst false (.cons (.tup (.cons (.tup (.cons (.str (Str.ofString "turn")) (.cons (.int 9) (.cons (.v 1) .nil)))) (.cons (.int 2) .nil))) .nil))) .nil)) [])) .nil))))))
def f_lawE_odd (I : Ix) : Fn := ⟨1, 4, true, b_lawE_odd I⟩
def b_lawE_out (I : Ix) : ISs := (.cons (.asg 2 (.int 0)) (.cons (.wh (.val (.cmp .eq (.op .mod (.bi .int (.cons (.v 0) .nil)) (.v 1)) (.int 0))) (.cons (.par 0 2 (.op .fdiv (.v 0) (.v 1)) (.op .add (.v 2) (.int 1))) .nil)) (.cons (.ret (.tup (.cons (.v 2) (.cons (.v 0) .nil)))) .nil)))
def f_lawE_out (I : Ix) : Fn := ⟨2, 3, true, b_lawE_out I⟩
def b_lawE_part (I : Ix) : ISs := (.cons (.asg 1 (.int 1)) (.cons (.loop (.nm 2) (.seq (.v 0)) (.cons (.asg 1 (.call I.lawE_core (.cons (.op .mul (.v 1) (.v 2)) .nil) [])) .nil)) (.cons (.ret (.v 1)) .nil)))
def f_lawE_part (I : Ix) : Fn := ⟨1, 3, true, b_lawE_part I⟩
def b_lawE_pick (I : Ix) : ISs := (.cons (.ret (.ix (.v 1) (.call I.lawE_draw (.cons (.v 0) (.cons (.bi .len (.cons (.v 1) .nil)) .nil)) []))) .nil)
def f_lawE_pick (I : Ix) : Fn := ⟨2, 2, true, b_lawE_pick I⟩
def b_lawE_places (I : Ix) : ISs := (.cons (.asg 1 (.dct [.inl 0, .inl 2] [.bl true, .bl true])) (.cons (.loop (.nm 2) (.seq (.call I.lawE_primes .nil [])) (.cons (.cond (.val (.cmp .ne (.lc [3] (.nm 3) (.seq (.v 0)) (.val (.cmp .eq (.op .mod (.bi .int (.cons (.v 3) .nil)) (.v 2)) (.int 0))) (.v 3)) (.lst false .nil))) (.cons (.setD (.v 1) (.v 2) (.bl true)) .nil) .nil) .nil)) (.cons (.ret (.bi .sorted (.cons (.bi .listD (.cons (.v 1) .nil)) .nil))) .nil)))
def f_lawE_places (I : Ix) : Fn := ⟨1, 4, false, b_lawE_places I⟩
def b_lawE_pool (I : Ix) (c0 : Int) (c1 : Int) : ISs := (.cons (.par 2 3 (.ife (.val (.cmp .lt (.v 1) (.bi .len (.cons (.v 0) .nil)))) (.bi .int (.cons (.ix (.v 0) (.v 1)) .nil)) (.op .add (.op .mul (.int 70001) (.v 1)) (.int 89))) (.op .add (.int c0) (.op .mul (.int c1) (.v 1)))) (.cons (.loop (.nm 4) (.seq (.sl (.v 0) .no (.yes (.int 6)))) (.cons (.asg 3 (.op .mod (.bi .int (.cons (.op .add (.op .add (.op .mul (.v 3) (.int 48271)) (.op .mod (.bi .int (.cons (.v 4) .nil)) (.int 2147482937))) (.int 43)) .nil)) (.int 2147482937))) .nil)) (.cons (.ret (.lst true (.cons (.op .mod (.bi .int (.cons (.op .add (.v 3) (.op .mul (.v 2) (.int 1033))) .nil)) (.int 2147482937)) (.cons (.ife (.or (.val (.cmp .lt (.v 2) (.int 0))) (.val (.cmp .ge (.v 2) (.op .pow (.int 10) (.int 18))))) (.bi .abs (.cons (.v 2) .nil)) (.int 0)) (.cons (.int 0) .nil))))) .nil)))
def f_lawE_pool (I : Ix) (c0 : Int) (c1 : Int) : Fn := ⟨2, 5, true, b_lawE_pool I c0 c1⟩
def b_lawE_primes (I : Ix) : ISs := (.cons (.asg 0 (.lst false (.cons (.int 2) (.cons (.int 3) (.cons (.int 5) (.cons (.int 7) (.cons (.int 11) (.cons (.int 13) (.cons (.int 17) (.cons (.int 19) (.cons (.int 23) (.cons (.int 29) (.cons (.int 31) (.cons (.int 37) (.cons (.int 41) (.cons (.int 43) (.cons (.int 47) (.cons (.int 53) (.cons (.int 59) (.cons (.int 61) (.cons (.int 67) (.cons (.int 71) (.cons (.int 73) (.cons (.int 79) (.cons (.int 83) (.cons (.int 89) (.cons (.int 97) .nil))))))))))))))))))))))))))) (.cons (.ret (.v 0)) .nil))
def f_lawE_primes (I : Ix) : Fn := ⟨0, 1, true, b_lawE_primes I⟩
def b_lawE_reason (I : Ix) : ISs := (.cons (.cond (.val (.cmp .eq (.ix (.v 1) (.int 0)) (.str (Str.ofString "put")))) (.cons (.ret (.ife (.val (.cmp .eq (.bi .len (.cons (.v 0) .nil)) (.int 4))) (.str (Str.ofString "full")) (.ife (.tru (.call I.lawE_gives_nought (.cons (.op .add (.v 0) (.tup (.cons (.ix (.v 1) (.int 1)) .nil))) .nil) [])) (.str (Str.ofString "nought")) (.str (Str.ofString ""))))) .nil) .nil) (.cons (.cond (.val (.cmp .ge (.ix (.v 1) (.int 1)) (.bi .len (.cons (.v 0) .nil)))) (.cons (.ret (.str (Str.ofString "none"))) .nil) .nil) (.cons (.cond (.val (.cmp .eq (.ix (.v 1) (.int 0)) (.str (Str.ofString "take")))) (.cons (.ret (.ife (.val (.cmp .eq (.bi .len (.cons (.v 0) .nil)) (.int 1))) (.str (Str.ofString "one")) (.str (Str.ofString "")))) .nil) .nil) (.cons (.cond (.val (.cmp .eq (.ix (.v 0) (.ix (.v 1) (.int 1))) (.ix (.v 1) (.int 2)))) (.cons (.ret (.str (Str.ofString "same"))) .nil) .nil) (.cons (.ret (.ife (.tru (.call I.lawE_gives_nought (.cons (.call I.lawE_after (.cons (.v 0) (.cons (.v 1) .nil)) []) .nil) [])) (.str (Str.ofString "nought")) (.str (Str.ofString "")))) .nil)))))
def f_lawE_reason (I : Ix) : Fn := ⟨2, 2, true, b_lawE_reason I⟩
def b_lawE_rest_sign (I : Ix) : ISs := (.cons (.loop (.nm 2) (.r2 (.int 1) (.op .add (.op .fdiv (.v 1) (.int 2)) (.int 1))) (.cons (.cond (.val (.cmp .eq (.op .mod (.bi .int (.cons (.op .sub (.op .mul (.v 2) (.v 2)) (.v 0)) .nil)) (.v 1)) (.int 0))) (.cons (.ret (.int 1)) .nil) .nil) .nil)) (.cons (.ret (.neg (.int 1))) .nil))
def f_lawE_rest_sign (I : Ix) : Fn := ⟨2, 3, true, b_lawE_rest_sign I⟩
def b_lawE_right (I : Ix) : ISs := (.cons (.par 1 2 (.mk I.c_desks_Desk) (.tup (.cons (.int 1) .nil))) (.cons (.loop (.nm 3) (.r1 (.int 5)) (.cons (.asg 4 (.call I.lawE_deed (.cons (.v 0) (.cons (.v 2) .nil)) [])) (.cons (.cond (.val (.cmp .eq (.call I.lawE_barred (.cons (.v 1) (.cons (.v 4) .nil)) []) (.str (Str.ofString "")))) (.cons (.asg 2 (.call I.lawE_after (.cons (.v 2) (.cons (.v 4) .nil)) [])) .nil) .nil) .nil))) (.cons (.asg 5 (.bi .repr (.cons (.lst false (.cons (.call I.lawE_told (.cons (.v 1) .nil) []) (.cons (.fld (.v 1) I.c_desks_Desk 1) .nil))) .nil))) (.cons (.loop (.nm 3) (.r1 (.int 30)) (.cons (.unp (.nm 4 (.nm 6 .nil)) (.call I.lawE_odd (.cons (.v 0) .nil) [])) (.cons (.cond (.val (.cmp .ne (.bi .repr (.cons (.call I.lawE_index (.cons (.v 1) (.cons (.v 4) .nil)) []) .nil)) (.bi .repr (.cons (.v 6) .nil)))) (.cons (.ret (.bl false)) .nil) .nil) .nil))) (.cons (.ret (.cmp .eq (.bi .repr (.cons (.lst false (.cons (.call I.lawE_told (.cons (.v 1) .nil) []) (.cons (.fld (.v 1) I.c_desks_Desk 1) .nil))) .nil)) (.v 5))) .nil)))))
def f_lawE_right (I : Ix) : Fn := ⟨1, 7, true, b_lawE_right I⟩
def b_lawE_right_1 (I : Ix) : ISs := (.cons (.par3 1 2 3 (.mk I.c_desks_Desk) (.tup (.cons (.int 1) .nil)) (.tup .nil)) (.cons (.loop (.nm 4) (.r1 (.int 18)) (.cons (.asg 5 (.call I.lawE_deed (.cons (.v 0) (.cons (.v 2) .nil)) [])) (.cons (.asg 6 (.call I.lawE_reason (.cons (.v 2) (.cons (.v 5) .nil)) [])) (.cons (.cond (.val (.cmp .ne (.call I.lawE_barred (.cons (.v 1) (.cons (.v 5) .nil)) []) (.v 6))) (.cons (.ret (.bl false)) .nil) .nil) (.cons (.cond (.val (.cmp .eq (.v 6) (.str (Str.ofString "")))) (.cons (.par 2 3 (.call I.lawE_after (.cons (.v 2) (.cons (.v 5) .nil)) []) (.op .add (.v 3) (.tup (.cons (.v 5) .nil)))) .nil) .nil) (.cons (.cond (.or (.val (.cmp .ne (.bi .repr (.cons (.lst false (.cons (.call I.lawE_told (.cons (.v 1) .nil) []) (.cons (.fld (.v 1) I.c_desks_Desk 1) .nil))) .nil)) (.bi .repr (.cons (.lst false (.cons (.call I.lawE_due (.cons (.v 2) .nil) []) (.cons (.v 3) .nil))) .nil)))) (.val (.cmp .eq (.meth (.v 1) I.m_desks_Desk_bars .nil) (.tup .nil)))) (.cons (.ret (.bl false)) .nil) .nil) .nil)))))) (.cons (.ret (.notV (.call I.lawE_gives_nought (.cons (.v 2) .nil) []))) .nil)))
def f_lawE_right_1 (I : Ix) : Fn := ⟨1, 7, true, b_lawE_right_1 I⟩
def b_lawE_sign (I : Ix) : ISs := (.cons (.cond (.val (.cmp .eq (.v 2) (.int 0))) (.cons (.ret (.ife (.and (.val (.cmp .lt (.v 0) (.int 0))) (.val (.cmp .lt (.v 1) (.int 0)))) (.neg (.int 1)) (.int 1))) .nil) .nil) (.cons (.unp (.nm 4 (.nm 3 .nil)) (.call I.lawE_out (.cons (.v 0) (.cons (.v 2) .nil)) [])) (.cons (.unp (.nm 6 (.nm 5 .nil)) (.call I.lawE_out (.cons (.v 1) (.cons (.v 2) .nil)) [])) (.cons (.cond (.val (.cmp .eq (.v 2) (.int 2))) (.cons (.asg 7 (.op .add (.op .mul (.op .fdiv (.op .sub (.v 3) (.int 1)) (.int 2)) (.op .fdiv (.op .sub (.v 5) (.int 1)) (.int 2))) (.op .mul (.v 4) (.op .fdiv (.op .sub (.op .mul (.v 5) (.v 5)) (.int 1)) (.int 8))))) (.cons (.ret (.ife (.val (.cmp .eq (.op .mod (.bi .int (.cons (.op .add (.v 7) (.op .mul (.v 6) (.op .fdiv (.op .sub (.op .mul (.v 3) (.v 3)) (.int 1)) (.int 8)))) .nil)) (.int 2)) (.int 1))) (.neg (.int 1)) (.int 1))) .nil)) .nil) (.cons (.asg 8 (.ife (.val (.cmp .eq (.op .mod (.bi .int (.cons (.op .mul (.op .mul (.v 4) (.v 6)) (.op .fdiv (.op .sub (.v 2) (.int 1)) (.int 2))) .nil)) (.int 2)) (.int 1))) (.neg (.int 1)) (.int 1))) (.cons (.cond (.val (.cmp .eq (.op .mod (.bi .int (.cons (.v 6) .nil)) (.int 2)) (.int 1))) (.cons (.asg 8 (.op .mul (.v 8) (.call I.lawE_rest_sign (.cons (.v 3) (.cons (.v 2) .nil)) []))) .nil) .nil) (.cons (.cond (.val (.cmp .eq (.op .mod (.bi .int (.cons (.v 4) .nil)) (.int 2)) (.int 1))) (.cons (.asg 8 (.op .mul (.v 8) (.call I.lawE_rest_sign (.cons (.v 5) (.cons (.v 2) .nil)) []))) .nil) .nil) (.cons (.ret (.v 8)) .nil))))))))
def f_lawE_sign (I : Ix) : Fn := ⟨3, 9, true, b_lawE_sign I⟩
def b_lawE_size (I : Ix) : ISs := (.cons (.ret (.tup (.cons (.bi .len (.cons (.lc [1] (.nm 1) (.seq (.v 0)) (.val (.cmp .gt (.v 1) (.int 0))) (.v 1)) .nil)) (.cons (.bi .len (.cons (.lc [1] (.nm 1) (.seq (.v 0)) (.val (.cmp .lt (.v 1) (.int 0))) (.v 1)) .nil)) .nil)))) .nil)
def f_lawE_size (I : Ix) : Fn := ⟨1, 2, true, b_lawE_size I⟩
def b_lawE_told (I : Ix) : ISs := (.cons (.ret (.lst false (.cons (.fld (.v 0) I.c_desks_Desk 0) (.cons (.meth (.v 0) I.m_desks_Desk_bars .nil) (.cons (.lc [1] (.nm 1) (.seq (.lst false (.cons (.int 1) (.cons (.neg (.int 1)) (.cons (.int 2) (.cons (.neg (.int 3)) (.cons (.int 5) (.cons (.neg (.int 7)) (.cons (.int 12) .nil))))))))) .yes (.meth (.v 0) I.m_desks_Desk_may_put (.cons (.v 1) .nil))) .nil))))) .nil)
def f_lawE_told (I : Ix) : Fn := ⟨1, 2, true, b_lawE_told I⟩
def b_lawE_weight (I : Ix) : ISs := (.cons (.ret (.op .mul (.op .add (.int 1) (.call I.lawE_draw (.cons (.v 0) (.cons (.v 1) .nil)) [])) (.op .sub (.int 1) (.op .mul (.int 2) (.bi .int (.cons (.call I.lawE_draw (.cons (.v 0) (.cons (.int 2) .nil)) []) .nil)))))) .nil)
def f_lawE_weight (I : Ix) : Fn := ⟨2, 2, true, b_lawE_weight I⟩
def b_noughts_bars_by (I : Ix) : ISs := (.cons (.cond (.val (.cmp .eq (.bi .len (.cons (.v 0) .nil)) (.int 1))) (.cons (.ret (.tup (.cons (.int 0) .nil))) .nil) .nil) (.cons (.asg 1 (.call I.signs_part_by (.cons (.v 0) .nil) [])) (.cons (.ret (.bi .tuple (.cons (.lc [2] (.nm 2) (.seq (.call I.noughts_looked_at (.cons (.v 0) .nil) [])) (.not (.tru (.call I.noughts_gives_with (.cons (.v 0) (.cons (.v 1) (.cons (.v 2) .nil))) []))) (.v 2)) .nil))) .nil)))
def f_noughts_bars_by (I : Ix) : Fn := ⟨1, 3, true, b_noughts_bars_by I⟩
def b_noughts_gives_nought_by (I : Ix) : ISs := (.cons (.cond (.val (.cmp .eq (.bi .len (.cons (.v 0) .nil)) (.int 1))) (.cons (.ret (.bl false)) .nil) .nil) (.cons (.asg 1 (.call I.signs_part_by (.cons (.v 0) .nil) [])) (.cons (.cond (.val (.cmp .eq (.bi .len (.cons (.v 0) .nil)) (.int 2))) (.cons (.ret (.cmp .eq (.v 1) (.neg (.int 1)))) .nil) .nil) (.cons (.cond (.or (.val (.cmp .eq (.bi .min1 (.cons (.call I.signs_size_by (.cons (.v 0) .nil) []) .nil)) (.int 0))) (.val (.cmp .gt (.bi .len (.cons (.v 0) .nil)) (.int 4)))) (.cons (.ret (.cmp .gt (.bi .min1 (.cons (.call I.signs_size_by (.cons (.v 0) .nil) []) .nil)) (.int 0))) .nil) .nil) (.cons (.ret (.bi .all (.cons (.lc [2] (.nm 2) (.seq (.call I.signs_places_by (.cons (.v 0) .nil) [])) .yes (.call I.noughts_gives_with (.cons (.v 0) (.cons (.v 1) (.cons (.v 2) .nil))) [])) .nil))) .nil)))))
def f_noughts_gives_nought_by (I : Ix) : Fn := ⟨1, 3, true, b_noughts_gives_nought_by I⟩
def b_noughts_gives_with (I : Ix) : ISs := (.cons (.cond (.val (.cmp .eq (.v 2) (.int 0))) (.cons (.ret (.cmp .gt (.bi .min1 (.cons (.call I.signs_size_by (.cons (.v 0) .nil) []) .nil)) (.int 0))) .nil) .nil) (.cons (.cond (.or (.val (.cmp .lt (.bi .len (.cons (.v 0) .nil)) (.int 2))) (.val (.cmp .gt (.bi .len (.cons (.v 0) .nil)) (.int 4)))) (.cons (.ret (.cmp .gt (.bi .len (.cons (.v 0) .nil)) (.int 4))) .nil) .nil) (.cons (.cond (.val (.cmp .eq (.bi .len (.cons (.v 0) .nil)) (.int 2))) (.cons (.ret (.call I.signs_is_square_by (.cons (.neg (.v 1)) (.cons (.v 2) .nil)) [])) .nil) .nil) (.cons (.cond (.val (.cmp .eq (.bi .len (.cons (.v 0) .nil)) (.int 3))) (.cons (.ret (.cmp .eq (.call I.signs_form_sign_by (.cons (.v 0) (.cons (.v 2) .nil)) []) (.call I.signs_sign_by (.cons (.neg (.int 1)) (.cons (.neg (.v 1)) (.cons (.v 2) .nil))) []))) .nil) .nil) (.cons (.ret (.orV (.notV (.call I.signs_is_square_by (.cons (.v 1) (.cons (.v 2) .nil)) [])) (.cmp .eq (.call I.signs_form_sign_by (.cons (.v 0) (.cons (.v 2) .nil)) []) (.call I.signs_sign_by (.cons (.neg (.int 1)) (.cons (.neg (.int 1)) (.cons (.v 2) .nil))) [])))) .nil)))))
def f_noughts_gives_with (I : Ix) : Fn := ⟨3, 3, true, b_noughts_gives_with I⟩
def b_noughts_looked_at (I : Ix) : ISs := (.cons (.ret (.ife (.val (.cmp .eq (.bi .len (.cons (.v 0) .nil)) (.int 2))) (.g I.g_signs_PLACES) (.call I.signs_places_by (.cons (.v 0) .nil) []))) .nil)
def f_noughts_looked_at (I : Ix) : Fn := ⟨1, 1, true, b_noughts_looked_at I⟩
def b_signs_check_weight (I : Ix) : ISs := (.cons (.cond (.not (.tru (.call I.signs_is_weight (.cons (.v 0) .nil) []))) (.cons (.raise1 I.x_errors_InvalidNumber (.v 0)) .nil) .nil) .nil)
def f_signs_check_weight (I : Ix) : Fn := ⟨1, 1, true, b_signs_check_weight I⟩
def b_signs_form_sign_by (I : Ix) : ISs := (.cons (.asg 2 (.int 1)) (.cons (.loop (.tp [3, 4]) (.enum (.v 0)) (.cons (.loop (.nm 5) (.seq (.sl (.v 0) (.yes (.op .add (.v 3) (.int 1))) .no)) (.cons (.asg 2 (.op .mul (.v 2) (.call I.signs_sign_by (.cons (.v 4) (.cons (.v 5) (.cons (.v 1) .nil))) []))) .nil)) .nil)) (.cons (.ret (.v 2)) .nil)))
def f_signs_form_sign_by (I : Ix) : Fn := ⟨2, 6, true, b_signs_form_sign_by I⟩
def b_signs_is_nonzero (I : Ix) : ISs := (.cons (.ret (.andV (.call I.values_is_between (.cons (.v 0) (.cons (.neg (.v 1)) (.cons (.v 1) .nil))) []) (.cmp .ne (.v 0) (.int 0)))) .nil)
def f_signs_is_nonzero (I : Ix) : Fn := ⟨2, 2, true, b_signs_is_nonzero I⟩
def b_signs_is_odd (I : Ix) : ISs := (.cons (.ret (.cmp .eq (.op .mod (.v 0) (.int 2)) (.int 1))) .nil)
def f_signs_is_odd (I : Ix) : Fn := ⟨1, 1, true, b_signs_is_odd I⟩
def b_signs_is_square_by (I : Ix) : ISs := (.cons (.cond (.val (.cmp .eq (.v 1) (.int 0))) (.cons (.ret (.cmp .gt (.v 0) (.int 0))) .nil) .nil) (.cons (.unp (.nm 3 (.nm 2 .nil)) (.call I.signs_parted_by (.cons (.v 0) (.cons (.v 1) .nil)) [])) (.cons (.cond (.tru (.call I.signs_is_odd (.cons (.v 3) .nil) [])) (.cons (.ret (.bl false)) .nil) .nil) (.cons (.ret (.ife (.val (.cmp .eq (.v 1) (.int 2))) (.cmp .eq (.op .mod (.v 2) (.int 8)) (.int 1)) (.cmp .eq (.call I.signs_rest_sign (.cons (.v 2) (.cons (.v 1) .nil)) []) (.int 1)))) .nil))))
def f_signs_is_square_by (I : Ix) : Fn := ⟨2, 4, true, b_signs_is_square_by I⟩
def b_signs_is_weight (I : Ix) : ISs := (.cons (.ret (.call I.signs_is_nonzero (.cons (.v 0) (.cons (.g I.g_signs_MOST_WEIGHT) .nil)) [])) .nil)
def f_signs_is_weight (I : Ix) : Fn := ⟨1, 1, true, b_signs_is_weight I⟩
def b_signs_part_by (I : Ix) : ISs := (.cons (.asg 1 (.int 1)) (.cons (.loop (.nm 2) (.seq (.g I.g_signs_PRIMES)) (.cons (.cond (.tru (.call I.signs_is_odd (.cons (.bi .sum (.cons (.lc [3] (.nm 3) (.seq (.v 0)) .yes (.ix (.call I.signs_parted_by (.cons (.v 3) (.cons (.v 2) .nil)) []) (.int 0))) .nil)) .nil) [])) (.cons (.asg 1 (.op .mul (.v 1) (.v 2))) .nil) .nil) .nil)) (.cons (.ret (.ife (.tru (.call I.signs_is_odd (.cons (.bi .len (.cons (.lc [3] (.nm 3) (.seq (.v 0)) (.val (.cmp .lt (.v 3) (.int 0))) (.v 3)) .nil)) .nil) [])) (.neg (.v 1)) (.v 1))) .nil)))
def f_signs_part_by (I : Ix) : Fn := ⟨1, 4, true, b_signs_part_by I⟩
def b_signs_parted_by (I : Ix) : ISs := (.cons (.asg 2 (.int 0)) (.cons (.wh (.val (.cmp .eq (.op .mod (.v 0) (.v 1)) (.int 0))) (.cons (.par 2 0 (.op .add (.v 2) (.int 1)) (.op .fdiv (.v 0) (.v 1))) .nil)) (.cons (.ret (.tup (.cons (.v 2) (.cons (.v 0) .nil)))) .nil)))
def f_signs_parted_by (I : Ix) : Fn := ⟨2, 3, true, b_signs_parted_by I⟩
def b_signs_places_by (I : Ix) : ISs := (.cons (.asg 3 (.lc [1] (.nm 1) (.seq (.g I.g_signs_PRIMES)) (.or (.val (.cmp .eq (.v 1) (.int 2))) (.tru (.bi .any (.cons (.lc [2] (.nm 2) (.seq (.v 0)) .yes (.cmp .eq (.op .mod (.v 2) (.v 1)) (.int 0))) .nil)))) (.v 1))) (.cons (.ret (.tup (.cons (.int 0) (.star (.v 3) .nil)))) .nil))
def f_signs_places_by (I : Ix) : Fn := ⟨1, 4, true, b_signs_places_by I⟩
def b_signs_rest_sign (I : Ix) : ISs := (.cons (.ret (.ife (.tru (.bi .any (.cons (.lc [2] (.nm 2) (.r2 (.int 1) (.v 1)) .yes (.cmp .eq (.op .mod (.op .sub (.op .mul (.v 2) (.v 2)) (.v 0)) (.v 1)) (.int 0))) .nil))) (.int 1) (.neg (.int 1)))) .nil)
def f_signs_rest_sign (I : Ix) : Fn := ⟨2, 3, true, b_signs_rest_sign I⟩
def b_signs_sign_at_odd (I : Ix) : ISs := (.cons (.unp (.nm 4 (.nm 3 .nil)) (.call I.signs_parted_by (.cons (.v 0) (.cons (.v 2) .nil)) [])) (.cons (.unp (.nm 6 (.nm 5 .nil)) (.call I.signs_parted_by (.cons (.v 1) (.cons (.v 2) .nil)) [])) (.cons (.asg 7 (.ife (.and (.tru (.call I.signs_is_odd (.cons (.v 4) .nil) [])) (.and (.tru (.call I.signs_is_odd (.cons (.v 6) .nil) [])) (.tru (.call I.signs_is_odd (.cons (.op .fdiv (.op .sub (.v 2) (.int 1)) (.int 2)) .nil) [])))) (.neg (.int 1)) (.int 1))) (.cons (.asg 7 (.ife (.tru (.call I.signs_is_odd (.cons (.v 6) .nil) [])) (.op .mul (.v 7) (.call I.signs_rest_sign (.cons (.v 3) (.cons (.v 2) .nil)) [])) (.v 7))) (.cons (.ret (.ife (.tru (.call I.signs_is_odd (.cons (.v 4) .nil) [])) (.op .mul (.v 7) (.call I.signs_rest_sign (.cons (.v 5) (.cons (.v 2) .nil)) [])) (.v 7))) .nil)))))
def f_signs_sign_at_odd (I : Ix) : Fn := ⟨3, 8, true, b_signs_sign_at_odd I⟩
def b_signs_sign_at_two (I : Ix) : ISs := (.cons (.unp (.nm 3 (.nm 2 .nil)) (.call I.signs_parted_by (.cons (.v 0) (.cons (.int 2) .nil)) [])) (.cons (.unp (.nm 5 (.nm 4 .nil)) (.call I.signs_parted_by (.cons (.v 1) (.cons (.int 2) .nil)) [])) (.cons (.asg 6 (.op .add (.op .add (.op .mul (.op .fdiv (.op .sub (.v 2) (.int 1)) (.int 2)) (.op .fdiv (.op .sub (.v 4) (.int 1)) (.int 2))) (.op .mul (.v 3) (.op .fdiv (.op .sub (.op .mul (.v 4) (.v 4)) (.int 1)) (.int 8)))) (.op .mul (.v 5) (.op .fdiv (.op .sub (.op .mul (.v 2) (.v 2)) (.int 1)) (.int 8))))) (.cons (.ret (.ife (.tru (.call I.signs_is_odd (.cons (.v 6) .nil) [])) (.neg (.int 1)) (.int 1))) .nil))))
def f_signs_sign_at_two (I : Ix) : Fn := ⟨2, 7, true, b_signs_sign_at_two I⟩
def b_signs_sign_by (I : Ix) : ISs := (.cons (.cond (.val (.cmp .eq (.v 2) (.int 0))) (.cons (.ret (.ife (.and (.val (.cmp .lt (.v 0) (.int 0))) (.val (.cmp .lt (.v 1) (.int 0)))) (.neg (.int 1)) (.int 1))) .nil) .nil) (.cons (.ret (.ife (.val (.cmp .eq (.v 2) (.int 2))) (.call I.signs_sign_at_two (.cons (.v 0) (.cons (.v 1) .nil)) []) (.call I.signs_sign_at_odd (.cons (.v 0) (.cons (.v 1) (.cons (.v 2) .nil))) []))) .nil))
def f_signs_sign_by (I : Ix) : Fn := ⟨3, 3, true, b_signs_sign_by I⟩
def b_signs_size_by (I : Ix) : ISs := (.cons (.asg 2 (.bi .len (.cons (.lc [1] (.nm 1) (.seq (.v 0)) (.val (.cmp .gt (.v 1) (.int 0))) (.v 1)) .nil))) (.cons (.ret (.tup (.cons (.v 2) (.cons (.op .sub (.bi .len (.cons (.v 0) .nil)) (.v 2)) .nil)))) .nil))
def f_signs_size_by (I : Ix) : Fn := ⟨1, 3, true, b_signs_size_by I⟩
def b_values_is_between (I : Ix) : ISs := (.cons (.ret (.andV (.call I.values_is_whole (.cons (.v 0) .nil) []) (.chain .le .le (.v 1) (.v 0) (.v 2)))) .nil)
def f_values_is_between (I : Ix) : Fn := ⟨3, 3, true, b_values_is_between I⟩
def b_values_is_number (I : Ix) : ISs := (.cons (.ret (.andV (.call I.values_is_whole (.cons (.v 0) .nil) []) (.andV (.cmp .le (.v 1) (.v 0)) (.orV (.cmp .isN (.v 2) .non) (.cmp .le (.v 0) (.v 2)))))) .nil)
def f_values_is_number (I : Ix) : Fn := ⟨3, 3, true, b_values_is_number I⟩
def b_values_is_string (I : Ix) : ISs := (.cons (.ret (.isT .str (.v 0))) .nil)
def f_values_is_string (I : Ix) : Fn := ⟨1, 1, true, b_values_is_string I⟩
def b_values_is_whole (I : Ix) : ISs := (.cons (.ret (.andV (.isT .int (.v 0)) (.notV (.isT .bl (.v 0))))) .nil)
def f_values_is_whole (I : Ix) : Fn := ⟨1, 1, true, b_values_is_whole I⟩
class H_c_desks_Desk (I : Ix) (L : Lib) : Prop where
  at_c_desks_Desk : L.inits[I.c_desks_Desk]? = some (I.desks_Desk_init, 3)
theorem A_c_desks_Desk {I : Ix} {L : Lib} [h : H_c_desks_Desk I L] : L.inits[I.c_desks_Desk]? = some (I.desks_Desk_init, 3) := h.at_c_desks_Desk
class H_d_desks_SIZES (I : Ix) (L : Lib) : Prop where
  at_d_desks_SIZES : L.dicts[I.d_desks_SIZES]? = some [((Str.ofString "put"), 2), ((Str.ofString "take"), 2), ((Str.ofString "turn"), 3)]
theorem A_d_desks_SIZES {I : Ix} {L : Lib} [h : H_d_desks_SIZES I L] : L.dicts[I.d_desks_SIZES]? = some [((Str.ofString "put"), 2), ((Str.ofString "take"), 2), ((Str.ofString "turn"), 3)] := h.at_d_desks_SIZES
class H_g_desks_FULL (I : Ix) (L : Lib) : Prop where
  at_g_desks_FULL : L.gs[I.g_desks_FULL]? = some (.str (Str.ofString "full"))
theorem A_g_desks_FULL {I : Ix} {L : Lib} [h : H_g_desks_FULL I L] : L.gs[I.g_desks_FULL]? = some (.str (Str.ofString "full")) := h.at_g_desks_FULL
class H_g_desks_MOST_HERE (I : Ix) (L : Lib) : Prop where
  at_g_desks_MOST_HERE : L.gs[I.g_desks_MOST_HERE]? = some (.int 4)
theorem A_g_desks_MOST_HERE {I : Ix} {L : Lib} [h : H_g_desks_MOST_HERE I L] : L.gs[I.g_desks_MOST_HERE]? = some (.int 4) := h.at_g_desks_MOST_HERE
class H_g_desks_NONE (I : Ix) (L : Lib) : Prop where
  at_g_desks_NONE : L.gs[I.g_desks_NONE]? = some (.str (Str.ofString "none"))
theorem A_g_desks_NONE {I : Ix} {L : Lib} [h : H_g_desks_NONE I L] : L.gs[I.g_desks_NONE]? = some (.str (Str.ofString "none")) := h.at_g_desks_NONE
class H_g_desks_NOUGHT (I : Ix) (L : Lib) : Prop where
  at_g_desks_NOUGHT : L.gs[I.g_desks_NOUGHT]? = some (.str (Str.ofString "nought"))
theorem A_g_desks_NOUGHT {I : Ix} {L : Lib} [h : H_g_desks_NOUGHT I L] : L.gs[I.g_desks_NOUGHT]? = some (.str (Str.ofString "nought")) := h.at_g_desks_NOUGHT
class H_g_desks_ONE (I : Ix) (L : Lib) : Prop where
  at_g_desks_ONE : L.gs[I.g_desks_ONE]? = some (.str (Str.ofString "one"))
theorem A_g_desks_ONE {I : Ix} {L : Lib} [h : H_g_desks_ONE I L] : L.gs[I.g_desks_ONE]? = some (.str (Str.ofString "one")) := h.at_g_desks_ONE
class H_g_desks_SAME (I : Ix) (L : Lib) : Prop where
  at_g_desks_SAME : L.gs[I.g_desks_SAME]? = some (.str (Str.ofString "same"))
theorem A_g_desks_SAME {I : Ix} {L : Lib} [h : H_g_desks_SAME I L] : L.gs[I.g_desks_SAME]? = some (.str (Str.ofString "same")) := h.at_g_desks_SAME
class H_g_signs_MOST_WEIGHT (I : Ix) (L : Lib) : Prop where
  at_g_signs_MOST_WEIGHT : L.gs[I.g_signs_MOST_WEIGHT]? = some (.int 99)
theorem A_g_signs_MOST_WEIGHT {I : Ix} {L : Lib} [h : H_g_signs_MOST_WEIGHT I L] : L.gs[I.g_signs_MOST_WEIGHT]? = some (.int 99) := h.at_g_signs_MOST_WEIGHT
class H_g_signs_PLACES (I : Ix) (L : Lib) : Prop where
  at_g_signs_PLACES : L.gs[I.g_signs_PLACES]? = some (.tup [.int 0, .int 2, .int 3, .int 5, .int 7, .int 11, .int 13, .int 17, .int 19, .int 23, .int 29, .int 31, .int 37, .int 41, .int 43, .int 47, .int 53, .int 59, .int 61, .int 67, .int 71, .int 73, .int 79, .int 83, .int 89, .int 97])
theorem A_g_signs_PLACES {I : Ix} {L : Lib} [h : H_g_signs_PLACES I L] : L.gs[I.g_signs_PLACES]? = some (.tup [.int 0, .int 2, .int 3, .int 5, .int 7, .int 11, .int 13, .int 17, .int 19, .int 23, .int 29, .int 31, .int 37, .int 41, .int 43, .int 47, .int 53, .int 59, .int 61, .int 67, .int 71, .int 73, .int 79, .int 83, .int 89, .int 97]) := h.at_g_signs_PLACES
class H_g_signs_PRIMES (I : Ix) (L : Lib) : Prop where
  at_g_signs_PRIMES : L.gs[I.g_signs_PRIMES]? = some (.tup [.int 2, .int 3, .int 5, .int 7, .int 11, .int 13, .int 17, .int 19, .int 23, .int 29, .int 31, .int 37, .int 41, .int 43, .int 47, .int 53, .int 59, .int 61, .int 67, .int 71, .int 73, .int 79, .int 83, .int 89, .int 97])
theorem A_g_signs_PRIMES {I : Ix} {L : Lib} [h : H_g_signs_PRIMES I L] : L.gs[I.g_signs_PRIMES]? = some (.tup [.int 2, .int 3, .int 5, .int 7, .int 11, .int 13, .int 17, .int 19, .int 23, .int 29, .int 31, .int 37, .int 41, .int 43, .int 47, .int 53, .int 59, .int 61, .int 67, .int 71, .int 73, .int 79, .int 83, .int 89, .int 97]) := h.at_g_signs_PRIMES
class H_m_desks_Desk_bars (I : Ix) (L : Lib) : Prop where
  at_m_desks_Desk_bars : L.ms[I.m_desks_Desk_bars]? = some (I.c_desks_Desk, I.desks_Desk_bars)
theorem A_m_desks_Desk_bars {I : Ix} {L : Lib} [h : H_m_desks_Desk_bars I L] : L.ms[I.m_desks_Desk_bars]? = some (I.c_desks_Desk, I.desks_Desk_bars) := h.at_m_desks_Desk_bars
class H_m_desks_Desk_do (I : Ix) (L : Lib) : Prop where
  at_m_desks_Desk_do : L.ms[I.m_desks_Desk_do]? = some (I.c_desks_Desk, I.desks_Desk_do)
theorem A_m_desks_Desk_do {I : Ix} {L : Lib} [h : H_m_desks_Desk_do I L] : L.ms[I.m_desks_Desk_do]? = some (I.c_desks_Desk, I.desks_Desk_do) := h.at_m_desks_Desk_do
class H_m_desks_Desk_may_put (I : Ix) (L : Lib) : Prop where
  at_m_desks_Desk_may_put : L.ms[I.m_desks_Desk_may_put]? = some (I.c_desks_Desk, I.desks_Desk_may_put)
theorem A_m_desks_Desk_may_put {I : Ix} {L : Lib} [h : H_m_desks_Desk_may_put I L] : L.ms[I.m_desks_Desk_may_put]? = some (I.c_desks_Desk, I.desks_Desk_may_put) := h.at_m_desks_Desk_may_put
class H_x_errors_Barred (I : Ix) (L : Lib) : Prop where
  at_x_errors_Barred : L.subs[I.x_errors_Barred]? = some [I.x_errors_Barred, I.x_errors_FormError]
theorem A_x_errors_Barred {I : Ix} {L : Lib} [h : H_x_errors_Barred I L] : L.subs[I.x_errors_Barred]? = some [I.x_errors_Barred, I.x_errors_FormError] := h.at_x_errors_Barred
class H_x_errors_FormError (I : Ix) (L : Lib) : Prop where
  at_x_errors_FormError : L.subs[I.x_errors_FormError]? = some [I.x_errors_FormError]
theorem A_x_errors_FormError {I : Ix} {L : Lib} [h : H_x_errors_FormError I L] : L.subs[I.x_errors_FormError]? = some [I.x_errors_FormError] := h.at_x_errors_FormError
class H_x_errors_InvalidDeed (I : Ix) (L : Lib) : Prop where
  at_x_errors_InvalidDeed : L.subs[I.x_errors_InvalidDeed]? = some [I.x_errors_InvalidDeed, I.x_errors_FormError]
theorem A_x_errors_InvalidDeed {I : Ix} {L : Lib} [h : H_x_errors_InvalidDeed I L] : L.subs[I.x_errors_InvalidDeed]? = some [I.x_errors_InvalidDeed, I.x_errors_FormError] := h.at_x_errors_InvalidDeed
class H_x_errors_InvalidNumber (I : Ix) (L : Lib) : Prop where
  at_x_errors_InvalidNumber : L.subs[I.x_errors_InvalidNumber]? = some [I.x_errors_InvalidNumber, I.x_errors_FormError]
theorem A_x_errors_InvalidNumber {I : Ix} {L : Lib} [h : H_x_errors_InvalidNumber I L] : L.subs[I.x_errors_InvalidNumber]? = some [I.x_errors_InvalidNumber, I.x_errors_FormError] := h.at_x_errors_InvalidNumber
class H_signs_is_odd (I : Ix) (L : Lib) (fs : List Fn) : Prop where
  at_signs_is_odd : fs[I.signs_is_odd]? = some (f_signs_is_odd I)
theorem A_signs_is_odd {I : Ix} (L : Lib) {fs : List Fn} [h : H_signs_is_odd I L fs] : fs[I.signs_is_odd]? = some (f_signs_is_odd I) := h.at_signs_is_odd
class H_signs_parted_by (I : Ix) (L : Lib) (fs : List Fn) : Prop where
  at_signs_parted_by : fs[I.signs_parted_by]? = some (f_signs_parted_by I)
theorem A_signs_parted_by {I : Ix} (L : Lib) {fs : List Fn} [h : H_signs_parted_by I L fs] : fs[I.signs_parted_by]? = some (f_signs_parted_by I) := h.at_signs_parted_by
class H_signs_part_by (I : Ix) (L : Lib) (fs : List Fn) : Prop extends H_g_signs_PRIMES I L, H_signs_is_odd I L fs, H_signs_parted_by I L fs where
  at_signs_part_by : fs[I.signs_part_by]? = some (f_signs_part_by I)
theorem A_signs_part_by {I : Ix} (L : Lib) {fs : List Fn} [h : H_signs_part_by I L fs] : fs[I.signs_part_by]? = some (f_signs_part_by I) := h.at_signs_part_by
class H_signs_places_by (I : Ix) (L : Lib) (fs : List Fn) : Prop extends H_g_signs_PRIMES I L where
  at_signs_places_by : fs[I.signs_places_by]? = some (f_signs_places_by I)
theorem A_signs_places_by {I : Ix} (L : Lib) {fs : List Fn} [h : H_signs_places_by I L fs] : fs[I.signs_places_by]? = some (f_signs_places_by I) := h.at_signs_places_by
class H_noughts_looked_at (I : Ix) (L : Lib) (fs : List Fn) : Prop extends H_g_signs_PLACES I L, H_signs_places_by I L fs where
  at_noughts_looked_at : fs[I.noughts_looked_at]? = some (f_noughts_looked_at I)
theorem A_noughts_looked_at {I : Ix} (L : Lib) {fs : List Fn} [h : H_noughts_looked_at I L fs] : fs[I.noughts_looked_at]? = some (f_noughts_looked_at I) := h.at_noughts_looked_at
class H_signs_size_by (I : Ix) (L : Lib) (fs : List Fn) : Prop where
  at_signs_size_by : fs[I.signs_size_by]? = some (f_signs_size_by I)
theorem A_signs_size_by {I : Ix} (L : Lib) {fs : List Fn} [h : H_signs_size_by I L fs] : fs[I.signs_size_by]? = some (f_signs_size_by I) := h.at_signs_size_by
class H_signs_rest_sign (I : Ix) (L : Lib) (fs : List Fn) : Prop where
  at_signs_rest_sign : fs[I.signs_rest_sign]? = some (f_signs_rest_sign I)
theorem A_signs_rest_sign {I : Ix} (L : Lib) {fs : List Fn} [h : H_signs_rest_sign I L fs] : fs[I.signs_rest_sign]? = some (f_signs_rest_sign I) := h.at_signs_rest_sign
class H_signs_is_square_by (I : Ix) (L : Lib) (fs : List Fn) : Prop extends H_signs_parted_by I L fs, H_signs_is_odd I L fs, H_signs_rest_sign I L fs where
  at_signs_is_square_by : fs[I.signs_is_square_by]? = some (f_signs_is_square_by I)
theorem A_signs_is_square_by {I : Ix} (L : Lib) {fs : List Fn} [h : H_signs_is_square_by I L fs] : fs[I.signs_is_square_by]? = some (f_signs_is_square_by I) := h.at_signs_is_square_by
class H_signs_sign_at_two (I : Ix) (L : Lib) (fs : List Fn) : Prop extends H_signs_parted_by I L fs, H_signs_is_odd I L fs where
  at_signs_sign_at_two : fs[I.signs_sign_at_two]? = some (f_signs_sign_at_two I)
theorem A_signs_sign_at_two {I : Ix} (L : Lib) {fs : List Fn} [h : H_signs_sign_at_two I L fs] : fs[I.signs_sign_at_two]? = some (f_signs_sign_at_two I) := h.at_signs_sign_at_two
class H_signs_sign_at_odd (I : Ix) (L : Lib) (fs : List Fn) : Prop extends H_signs_parted_by I L fs, H_signs_is_odd I L fs, H_signs_rest_sign I L fs where
  at_signs_sign_at_odd : fs[I.signs_sign_at_odd]? = some (f_signs_sign_at_odd I)
theorem A_signs_sign_at_odd {I : Ix} (L : Lib) {fs : List Fn} [h : H_signs_sign_at_odd I L fs] : fs[I.signs_sign_at_odd]? = some (f_signs_sign_at_odd I) := h.at_signs_sign_at_odd
class H_signs_sign_by (I : Ix) (L : Lib) (fs : List Fn) : Prop extends H_signs_sign_at_two I L fs, H_signs_sign_at_odd I L fs where
  at_signs_sign_by : fs[I.signs_sign_by]? = some (f_signs_sign_by I)
theorem A_signs_sign_by {I : Ix} (L : Lib) {fs : List Fn} [h : H_signs_sign_by I L fs] : fs[I.signs_sign_by]? = some (f_signs_sign_by I) := h.at_signs_sign_by
class H_signs_form_sign_by (I : Ix) (L : Lib) (fs : List Fn) : Prop extends H_signs_sign_by I L fs where
  at_signs_form_sign_by : fs[I.signs_form_sign_by]? = some (f_signs_form_sign_by I)
theorem A_signs_form_sign_by {I : Ix} (L : Lib) {fs : List Fn} [h : H_signs_form_sign_by I L fs] : fs[I.signs_form_sign_by]? = some (f_signs_form_sign_by I) := h.at_signs_form_sign_by
class H_noughts_gives_with (I : Ix) (L : Lib) (fs : List Fn) : Prop extends H_signs_size_by I L fs, H_signs_is_square_by I L fs, H_signs_form_sign_by I L fs, H_signs_sign_by I L fs where
  at_noughts_gives_with : fs[I.noughts_gives_with]? = some (f_noughts_gives_with I)
theorem A_noughts_gives_with {I : Ix} (L : Lib) {fs : List Fn} [h : H_noughts_gives_with I L fs] : fs[I.noughts_gives_with]? = some (f_noughts_gives_with I) := h.at_noughts_gives_with
class H_noughts_bars_by (I : Ix) (L : Lib) (fs : List Fn) : Prop extends H_signs_part_by I L fs, H_noughts_looked_at I L fs, H_noughts_gives_with I L fs where
  at_noughts_bars_by : fs[I.noughts_bars_by]? = some (f_noughts_bars_by I)
theorem A_noughts_bars_by {I : Ix} (L : Lib) {fs : List Fn} [h : H_noughts_bars_by I L fs] : fs[I.noughts_bars_by]? = some (f_noughts_bars_by I) := h.at_noughts_bars_by
class H_desks_Desk_bars (I : Ix) (L : Lib) (fs : List Fn) : Prop extends H_noughts_bars_by I L fs, H_c_desks_Desk I L where
  at_desks_Desk_bars : fs[I.desks_Desk_bars]? = some (f_desks_Desk_bars I)
theorem A_desks_Desk_bars {I : Ix} (L : Lib) {fs : List Fn} [h : H_desks_Desk_bars I L fs] : fs[I.desks_Desk_bars]? = some (f_desks_Desk_bars I) := h.at_desks_Desk_bars
class H_values_is_string (I : Ix) (L : Lib) (fs : List Fn) : Prop where
  at_values_is_string : fs[I.values_is_string]? = some (f_values_is_string I)
theorem A_values_is_string {I : Ix} (L : Lib) {fs : List Fn} [h : H_values_is_string I L fs] : fs[I.values_is_string]? = some (f_values_is_string I) := h.at_values_is_string
class H_desks_has_form (I : Ix) (L : Lib) (fs : List Fn) : Prop extends H_values_is_string I L fs, H_d_desks_SIZES I L where
  at_desks_has_form : fs[I.desks_has_form]? = some (f_desks_has_form I)
theorem A_desks_has_form {I : Ix} (L : Lib) {fs : List Fn} [h : H_desks_has_form I L fs] : fs[I.desks_has_form]? = some (f_desks_has_form I) := h.at_desks_has_form
class H_values_is_whole (I : Ix) (L : Lib) (fs : List Fn) : Prop where
  at_values_is_whole : fs[I.values_is_whole]? = some (f_values_is_whole I)
theorem A_values_is_whole {I : Ix} (L : Lib) {fs : List Fn} [h : H_values_is_whole I L fs] : fs[I.values_is_whole]? = some (f_values_is_whole I) := h.at_values_is_whole
class H_values_is_between (I : Ix) (L : Lib) (fs : List Fn) : Prop extends H_values_is_whole I L fs where
  at_values_is_between : fs[I.values_is_between]? = some (f_values_is_between I)
theorem A_values_is_between {I : Ix} (L : Lib) {fs : List Fn} [h : H_values_is_between I L fs] : fs[I.values_is_between]? = some (f_values_is_between I) := h.at_values_is_between
class H_signs_is_nonzero (I : Ix) (L : Lib) (fs : List Fn) : Prop extends H_values_is_between I L fs where
  at_signs_is_nonzero : fs[I.signs_is_nonzero]? = some (f_signs_is_nonzero I)
theorem A_signs_is_nonzero {I : Ix} (L : Lib) {fs : List Fn} [h : H_signs_is_nonzero I L fs] : fs[I.signs_is_nonzero]? = some (f_signs_is_nonzero I) := h.at_signs_is_nonzero
class H_signs_is_weight (I : Ix) (L : Lib) (fs : List Fn) : Prop extends H_signs_is_nonzero I L fs, H_g_signs_MOST_WEIGHT I L where
  at_signs_is_weight : fs[I.signs_is_weight]? = some (f_signs_is_weight I)
theorem A_signs_is_weight {I : Ix} (L : Lib) {fs : List Fn} [h : H_signs_is_weight I L fs] : fs[I.signs_is_weight]? = some (f_signs_is_weight I) := h.at_signs_is_weight
class H_values_is_number (I : Ix) (L : Lib) (fs : List Fn) : Prop extends H_values_is_whole I L fs where
  at_values_is_number : fs[I.values_is_number]? = some (f_values_is_number I)
theorem A_values_is_number {I : Ix} (L : Lib) {fs : List Fn} [h : H_values_is_number I L fs] : fs[I.values_is_number]? = some (f_values_is_number I) := h.at_values_is_number
class H_desks_check_deed (I : Ix) (L : Lib) (fs : List Fn) : Prop extends H_desks_has_form I L fs, H_x_errors_InvalidDeed I L, H_signs_is_weight I L fs, H_values_is_number I L fs where
  at_desks_check_deed : fs[I.desks_check_deed]? = some (f_desks_check_deed I)
theorem A_desks_check_deed {I : Ix} (L : Lib) {fs : List Fn} [h : H_desks_check_deed I L fs] : fs[I.desks_check_deed]? = some (f_desks_check_deed I) := h.at_desks_check_deed
class H_desks_reason_by_itself (I : Ix) (L : Lib) (fs : List Fn) : Prop extends H_g_desks_MOST_HERE I L, H_g_desks_FULL I L, H_g_desks_NONE I L, H_g_desks_ONE I L, H_g_desks_SAME I L where
  at_desks_reason_by_itself : fs[I.desks_reason_by_itself]? = some (f_desks_reason_by_itself I)
theorem A_desks_reason_by_itself {I : Ix} (L : Lib) {fs : List Fn} [h : H_desks_reason_by_itself I L fs] : fs[I.desks_reason_by_itself]? = some (f_desks_reason_by_itself I) := h.at_desks_reason_by_itself
class H_noughts_gives_nought_by (I : Ix) (L : Lib) (fs : List Fn) : Prop extends H_signs_part_by I L fs, H_signs_size_by I L fs, H_signs_places_by I L fs, H_noughts_gives_with I L fs where
  at_noughts_gives_nought_by : fs[I.noughts_gives_nought_by]? = some (f_noughts_gives_nought_by I)
theorem A_noughts_gives_nought_by {I : Ix} (L : Lib) {fs : List Fn} [h : H_noughts_gives_nought_by I L fs] : fs[I.noughts_gives_nought_by]? = some (f_noughts_gives_nought_by I) := h.at_noughts_gives_nought_by
class H_desks_form_behind (I : Ix) (L : Lib) (fs : List Fn) : Prop where
  at_desks_form_behind : fs[I.desks_form_behind]? = some (f_desks_form_behind I)
theorem A_desks_form_behind {I : Ix} (L : Lib) {fs : List Fn} [h : H_desks_form_behind I L fs] : fs[I.desks_form_behind]? = some (f_desks_form_behind I) := h.at_desks_form_behind
class H_desks_reason_against (I : Ix) (L : Lib) (fs : List Fn) : Prop extends H_desks_reason_by_itself I L fs, H_noughts_gives_nought_by I L fs, H_desks_form_behind I L fs, H_g_desks_NOUGHT I L where
  at_desks_reason_against : fs[I.desks_reason_against]? = some (f_desks_reason_against I)
theorem A_desks_reason_against {I : Ix} (L : Lib) {fs : List Fn} [h : H_desks_reason_against I L fs] : fs[I.desks_reason_against]? = some (f_desks_reason_against I) := h.at_desks_reason_against
class H_desks_Desk_do (I : Ix) (L : Lib) (fs : List Fn) : Prop extends H_desks_check_deed I L fs, H_desks_reason_against I L fs, H_c_desks_Desk I L, H_x_errors_Barred I L, H_desks_form_behind I L fs where
  at_desks_Desk_do : fs[I.desks_Desk_do]? = some (f_desks_Desk_do I)
theorem A_desks_Desk_do {I : Ix} (L : Lib) {fs : List Fn} [h : H_desks_Desk_do I L fs] : fs[I.desks_Desk_do]? = some (f_desks_Desk_do I) := h.at_desks_Desk_do
class H_desks_Desk_init (I : Ix) (L : Lib) (fs : List Fn) : Prop extends H_c_desks_Desk I L where
  at_desks_Desk_init : fs[I.desks_Desk_init]? = some (f_desks_Desk_init I)
theorem A_desks_Desk_init {I : Ix} (L : Lib) {fs : List Fn} [h : H_desks_Desk_init I L fs] : fs[I.desks_Desk_init]? = some (f_desks_Desk_init I) := h.at_desks_Desk_init
class H_signs_check_weight (I : Ix) (L : Lib) (fs : List Fn) : Prop extends H_signs_is_weight I L fs, H_x_errors_InvalidNumber I L where
  at_signs_check_weight : fs[I.signs_check_weight]? = some (f_signs_check_weight I)
theorem A_signs_check_weight {I : Ix} (L : Lib) {fs : List Fn} [h : H_signs_check_weight I L fs] : fs[I.signs_check_weight]? = some (f_signs_check_weight I) := h.at_signs_check_weight
class H_desks_Desk_may_put (I : Ix) (L : Lib) (fs : List Fn) : Prop extends H_signs_check_weight I L fs, H_desks_reason_against I L fs, H_c_desks_Desk I L where
  at_desks_Desk_may_put : fs[I.desks_Desk_may_put]? = some (f_desks_Desk_may_put I)
theorem A_desks_Desk_may_put {I : Ix} (L : Lib) {fs : List Fn} [h : H_desks_Desk_may_put I L fs] : fs[I.desks_Desk_may_put]? = some (f_desks_Desk_may_put I) := h.at_desks_Desk_may_put
class H_lawE_after (I : Ix) (L : Lib) (fs : List Fn) : Prop where
  at_lawE_after : fs[I.lawE_after]? = some (f_lawE_after I)
theorem A_lawE_after {I : Ix} (L : Lib) {fs : List Fn} [h : H_lawE_after I L fs] : fs[I.lawE_after]? = some (f_lawE_after I) := h.at_lawE_after
class H_lawE_barred (I : Ix) (L : Lib) (fs : List Fn) : Prop extends H_desks_Desk_do I L fs, H_c_desks_Desk I L, H_m_desks_Desk_do I L, H_x_errors_Barred I L where
  at_lawE_barred : fs[I.lawE_barred]? = some (f_lawE_barred I)
theorem A_lawE_barred {I : Ix} (L : Lib) {fs : List Fn} [h : H_lawE_barred I L fs] : fs[I.lawE_barred]? = some (f_lawE_barred I) := h.at_lawE_barred
class H_lawE_primes (I : Ix) (L : Lib) (fs : List Fn) : Prop where
  at_lawE_primes : fs[I.lawE_primes]? = some (f_lawE_primes I)
theorem A_lawE_primes {I : Ix} (L : Lib) {fs : List Fn} [h : H_lawE_primes I L fs] : fs[I.lawE_primes]? = some (f_lawE_primes I) := h.at_lawE_primes
class H_lawE_places (I : Ix) (L : Lib) (fs : List Fn) : Prop extends H_lawE_primes I L fs where
  at_lawE_places : fs[I.lawE_places]? = some (f_lawE_places I)
theorem A_lawE_places {I : Ix} (L : Lib) {fs : List Fn} [h : H_lawE_places I L fs] : fs[I.lawE_places]? = some (f_lawE_places I) := h.at_lawE_places
class H_lawE_size (I : Ix) (L : Lib) (fs : List Fn) : Prop where
  at_lawE_size : fs[I.lawE_size]? = some (f_lawE_size I)
theorem A_lawE_size {I : Ix} (L : Lib) {fs : List Fn} [h : H_lawE_size I L fs] : fs[I.lawE_size]? = some (f_lawE_size I) := h.at_lawE_size
class H_lawE_core (I : Ix) (L : Lib) (fs : List Fn) : Prop where
  at_lawE_core : fs[I.lawE_core]? = some (f_lawE_core I)
theorem A_lawE_core {I : Ix} (L : Lib) {fs : List Fn} [h : H_lawE_core I L fs] : fs[I.lawE_core]? = some (f_lawE_core I) := h.at_lawE_core
class H_lawE_part (I : Ix) (L : Lib) (fs : List Fn) : Prop extends H_lawE_core I L fs where
  at_lawE_part : fs[I.lawE_part]? = some (f_lawE_part I)
theorem A_lawE_part {I : Ix} (L : Lib) {fs : List Fn} [h : H_lawE_part I L fs] : fs[I.lawE_part]? = some (f_lawE_part I) := h.at_lawE_part
class H_lawE_out (I : Ix) (L : Lib) (fs : List Fn) : Prop where
  at_lawE_out : fs[I.lawE_out]? = some (f_lawE_out I)
theorem A_lawE_out {I : Ix} (L : Lib) {fs : List Fn} [h : H_lawE_out I L fs] : fs[I.lawE_out]? = some (f_lawE_out I) := h.at_lawE_out
class H_lawE_rest_sign (I : Ix) (L : Lib) (fs : List Fn) : Prop where
  at_lawE_rest_sign : fs[I.lawE_rest_sign]? = some (f_lawE_rest_sign I)
theorem A_lawE_rest_sign {I : Ix} (L : Lib) {fs : List Fn} [h : H_lawE_rest_sign I L fs] : fs[I.lawE_rest_sign]? = some (f_lawE_rest_sign I) := h.at_lawE_rest_sign
class H_lawE_sign (I : Ix) (L : Lib) (fs : List Fn) : Prop extends H_lawE_out I L fs, H_lawE_rest_sign I L fs where
  at_lawE_sign : fs[I.lawE_sign]? = some (f_lawE_sign I)
theorem A_lawE_sign {I : Ix} (L : Lib) {fs : List Fn} [h : H_lawE_sign I L fs] : fs[I.lawE_sign]? = some (f_lawE_sign I) := h.at_lawE_sign
class H_lawE_form_sign (I : Ix) (L : Lib) (fs : List Fn) : Prop extends H_lawE_sign I L fs where
  at_lawE_form_sign : fs[I.lawE_form_sign]? = some (f_lawE_form_sign I)
theorem A_lawE_form_sign {I : Ix} (L : Lib) {fs : List Fn} [h : H_lawE_form_sign I L fs] : fs[I.lawE_form_sign]? = some (f_lawE_form_sign I) := h.at_lawE_form_sign
class H_lawE_is_square (I : Ix) (L : Lib) (fs : List Fn) : Prop extends H_lawE_out I L fs, H_lawE_rest_sign I L fs where
  at_lawE_is_square : fs[I.lawE_is_square]? = some (f_lawE_is_square I)
theorem A_lawE_is_square {I : Ix} (L : Lib) {fs : List Fn} [h : H_lawE_is_square I L fs] : fs[I.lawE_is_square]? = some (f_lawE_is_square I) := h.at_lawE_is_square
class H_lawE_nought_at (I : Ix) (L : Lib) (fs : List Fn) : Prop extends H_lawE_size I L fs, H_lawE_part I L fs, H_lawE_form_sign I L fs, H_lawE_is_square I L fs, H_lawE_sign I L fs where
  at_lawE_nought_at : fs[I.lawE_nought_at]? = some (f_lawE_nought_at I)
theorem A_lawE_nought_at {I : Ix} (L : Lib) {fs : List Fn} [h : H_lawE_nought_at I L fs] : fs[I.lawE_nought_at]? = some (f_lawE_nought_at I) := h.at_lawE_nought_at
class H_lawE_bars (I : Ix) (L : Lib) (fs : List Fn) : Prop extends H_lawE_primes I L fs, H_lawE_places I L fs, H_lawE_nought_at I L fs where
  at_lawE_bars : fs[I.lawE_bars]? = some (f_lawE_bars I)
theorem A_lawE_bars {I : Ix} (L : Lib) {fs : List Fn} [h : H_lawE_bars I L fs] : fs[I.lawE_bars]? = some (f_lawE_bars I) := h.at_lawE_bars
class H_lawE_draw (I : Ix) (L : Lib) (fs : List Fn) : Prop where
  at_lawE_draw : fs[I.lawE_draw]? = some (f_lawE_draw I)
theorem A_lawE_draw {I : Ix} (L : Lib) {fs : List Fn} [h : H_lawE_draw I L fs] : fs[I.lawE_draw]? = some (f_lawE_draw I) := h.at_lawE_draw
class H_lawE_weight (I : Ix) (L : Lib) (fs : List Fn) : Prop extends H_lawE_draw I L fs where
  at_lawE_weight : fs[I.lawE_weight]? = some (f_lawE_weight I)
theorem A_lawE_weight {I : Ix} (L : Lib) {fs : List Fn} [h : H_lawE_weight I L fs] : fs[I.lawE_weight]? = some (f_lawE_weight I) := h.at_lawE_weight
class H_lawE_deed (I : Ix) (L : Lib) (fs : List Fn) : Prop extends H_lawE_draw I L fs, H_lawE_weight I L fs where
  at_lawE_deed : fs[I.lawE_deed]? = some (f_lawE_deed I)
theorem A_lawE_deed {I : Ix} (L : Lib) {fs : List Fn} [h : H_lawE_deed I L fs] : fs[I.lawE_deed]? = some (f_lawE_deed I) := h.at_lawE_deed
class H_lawE_gives_nought (I : Ix) (L : Lib) (fs : List Fn) : Prop extends H_lawE_core I L fs, H_lawE_places I L fs, H_lawE_nought_at I L fs where
  at_lawE_gives_nought : fs[I.lawE_gives_nought]? = some (f_lawE_gives_nought I)
theorem A_lawE_gives_nought {I : Ix} (L : Lib) {fs : List Fn} [h : H_lawE_gives_nought I L fs] : fs[I.lawE_gives_nought]? = some (f_lawE_gives_nought I) := h.at_lawE_gives_nought
class H_lawE_reason (I : Ix) (L : Lib) (fs : List Fn) : Prop extends H_lawE_gives_nought I L fs, H_lawE_after I L fs where
  at_lawE_reason : fs[I.lawE_reason]? = some (f_lawE_reason I)
theorem A_lawE_reason {I : Ix} (L : Lib) {fs : List Fn} [h : H_lawE_reason I L fs] : fs[I.lawE_reason]? = some (f_lawE_reason I) := h.at_lawE_reason
class H_lawE_due (I : Ix) (L : Lib) (fs : List Fn) : Prop extends H_lawE_reason I L fs, H_lawE_bars I L fs where
  at_lawE_due : fs[I.lawE_due]? = some (f_lawE_due I)
theorem A_lawE_due {I : Ix} (L : Lib) {fs : List Fn} [h : H_lawE_due I L fs] : fs[I.lawE_due]? = some (f_lawE_due I) := h.at_lawE_due
class H_lawE_index (I : Ix) (L : Lib) (fs : List Fn) : Prop extends H_desks_Desk_do I L fs, H_c_desks_Desk I L, H_m_desks_Desk_do I L, H_x_errors_InvalidDeed I L, H_x_errors_FormError I L, H_x_errors_Barred I L where
  at_lawE_index : fs[I.lawE_index]? = some (f_lawE_index I)
theorem A_lawE_index {I : Ix} (L : Lib) {fs : List Fn} [h : H_lawE_index I L fs] : fs[I.lawE_index]? = some (f_lawE_index I) := h.at_lawE_index
class H_lawE_pick (I : Ix) (L : Lib) (fs : List Fn) : Prop extends H_lawE_draw I L fs where
  at_lawE_pick : fs[I.lawE_pick]? = some (f_lawE_pick I)
theorem A_lawE_pick {I : Ix} (L : Lib) {fs : List Fn} [h : H_lawE_pick I L fs] : fs[I.lawE_pick]? = some (f_lawE_pick I) := h.at_lawE_pick
class H_lawE_odd (I : Ix) (L : Lib) (fs : List Fn) : Prop extends H_lawE_pick I L fs where
  at_lawE_odd : fs[I.lawE_odd]? = some (f_lawE_odd I)
theorem A_lawE_odd {I : Ix} (L : Lib) {fs : List Fn} [h : H_lawE_odd I L fs] : fs[I.lawE_odd]? = some (f_lawE_odd I) := h.at_lawE_odd
class H_lawE_pool (I : Ix) (L : Lib) (fs : List Fn) (c0 : Int) (c1 : Int) : Prop where
  at_lawE_pool : fs[I.lawE_pool]? = some (f_lawE_pool I c0 c1)
theorem A_lawE_pool {I : Ix} (L : Lib) {fs : List Fn} (c0 : Int) (c1 : Int) [h : H_lawE_pool I L fs c0 c1] : fs[I.lawE_pool]? = some (f_lawE_pool I c0 c1) := h.at_lawE_pool
class H_lawE_told (I : Ix) (L : Lib) (fs : List Fn) : Prop extends H_desks_Desk_may_put I L fs, H_c_desks_Desk I L, H_m_desks_Desk_may_put I L, H_desks_Desk_bars I L fs, H_m_desks_Desk_bars I L where
  at_lawE_told : fs[I.lawE_told]? = some (f_lawE_told I)
theorem A_lawE_told {I : Ix} (L : Lib) {fs : List Fn} [h : H_lawE_told I L fs] : fs[I.lawE_told]? = some (f_lawE_told I) := h.at_lawE_told
class H_lawE_right (I : Ix) (L : Lib) (fs : List Fn) : Prop extends H_desks_Desk_init I L fs, H_c_desks_Desk I L, H_lawE_deed I L fs, H_lawE_barred I L fs, H_lawE_after I L fs, H_lawE_told I L fs, H_lawE_odd I L fs, H_lawE_index I L fs where
  at_lawE_right : fs[I.lawE_right]? = some (f_lawE_right I)
theorem A_lawE_right {I : Ix} (L : Lib) {fs : List Fn} [h : H_lawE_right I L fs] : fs[I.lawE_right]? = some (f_lawE_right I) := h.at_lawE_right
class H_lawE_right_1 (I : Ix) (L : Lib) (fs : List Fn) : Prop extends H_desks_Desk_init I L fs, H_c_desks_Desk I L, H_lawE_deed I L fs, H_lawE_reason I L fs, H_lawE_barred I L fs, H_lawE_after I L fs, H_lawE_told I L fs, H_lawE_due I L fs, H_desks_Desk_bars I L fs, H_m_desks_Desk_bars I L, H_lawE_gives_nought I L fs where
  at_lawE_right_1 : fs[I.lawE_right_1]? = some (f_lawE_right_1 I)
theorem A_lawE_right_1 {I : Ix} (L : Lib) {fs : List Fn} [h : H_lawE_right_1 I L fs] : fs[I.lawE_right_1]? = some (f_lawE_right_1 I) := h.at_lawE_right_1
end PI
end

section
set_option autoImplicit false
set_option maxHeartbeats 2000000
/-! S1: the defs of signs, what they give. -/
namespace PI
open PySem (Str PyData)
open NF
section
variable {I : Ix} {L : Lib} {fs : List Fn}
theorem d_odd [H_signs_is_odd I L fs] (n : Int) (k : Nat) (G : Hh) (hk : 1 ≤ k) : run L fs k I.signs_is_odd [.int n] G = .ok (.bl (odd n)) G := by
  obtain ⟨k, rfl⟩ : ∃ m, k = m + 1 := ⟨k - 1, by omega⟩
  rw [run_at (A_signs_is_odd L) rfl k _ G rfl]
  simp (disch := first | assumption | omega) only [List.map, List.map_cons, List.map_nil, Nat.reduceSub, List.replicate, List.cons_append, List.nil_append, List.append_nil, xs_cons, xs_nil, x_ret, x_asg, x_par, x_unp, x_drop, x_cond, x_loop, x_wh, x_raise1, x_setL, x_setF, x_app, x_try, e_fld, e_meth, e_lstT, g_nm, g_nil, IG.len, e_non, e_bl, e_int, e_str, e_v, e_g, e_op, e_neg, e_cmp, e_chain, e_and, e_or, e_not, e_ife, e_tup, e_lstF, e_ix, e_sl, e_call, e_bi, e_lc, e_isT, e_inG, e_ixG, es_nil, es_cons, es_star, o_no, o_yes, t_yes, t_and, t_or, t_not, t_val, t_tru, i_seq, i_r1, i_r2, i_enum, getS0, getSs, ofO_s, bindOk, bindEx, thnOk, thnEx, sthnNx, sthnRt, sthnEx, noexOk, endK_rt, endK_nx, endK_ex, c_eq_i, c_ne_i, c_eq_s, c_ne_s, c_lt, c_le, c_gt, c_ge, c_isN, c_notN, o_add, o_sub, o_mul, o_mod, o_div, o_addL, o_addT, tru_bl, tru_i, e_callK, e_callV, e_dct, e_mk, x_par3, x_setD, x_raise0, bi_lenT, bi_lenL, bi_min, bi_min2, bi_max2, bi_abs, bi_int, bi_intb, bi_tupL, bi_tupT, bi_lstT, bi_lstL, sl_L, sl_T, isNon, Option.map, List.set, and_self, if_true, if_false, Bool.false_eq_true, Bool.not_true, Bool.not_false, List.length, List.length_cons, List.length_nil, eq_self, Nat.zero_add, Nat.reduceAdd, Nat.reduceLeDiff, Option.bind_some, Option.isSome_some, decide_true, decide_false, List.length_map, seqOf, f_signs_is_odd, b_signs_is_odd, odd]
theorem d_parted [H_signs_parted_by I L fs] (n p : Int) (k : Nat) (G : Hh) (hk : 1 ≤ k) (hn : n ≠ 0) (hp : 2 ≤ p) (hp2 : p < 1073741824) (hb : n.natAbs < 18446744073709551616) :
    run L fs k I.signs_parted_by [.int n, .int p] G = .ok (.tup [.int ((ord n p : Nat) : Int), .int (unt n p)]) G := by
  obtain ⟨k, rfl⟩ : ∃ m, k = m + 1 := ⟨k - 1, by omega⟩
  rw [run_at (A_signs_parted_by L) rfl k _ G rfl]
  have e := wh_ord (t := evT L (run L fs k) (.val (.cmp .eq (.op .mod (.v 0) (.v 1)) (.int 0)))) (b := exSs L (run L fs k) (.cons (.par 2 0 (.op .add (.v 2) (.int 1)) (.op .fdiv (.v 0) (.v 1))) .nil)) hp
    (fun n m => [some (.int n), some (.int p), some (.int m)]) n.natAbs (fun n m G _ _ => by simp (disch := first | assumption | omega) only [List.map, List.map_cons, List.map_nil, Nat.reduceSub, List.replicate, List.cons_append, List.nil_append, List.append_nil, xs_cons, xs_nil, x_ret, x_asg, x_par, x_unp, x_drop, x_cond, x_loop, x_wh, x_raise1, x_setL, x_setF, x_app, x_try, e_fld, e_meth, e_lstT, g_nm, g_nil, IG.len, e_non, e_bl, e_int, e_str, e_v, e_g, e_op, e_neg, e_cmp, e_chain, e_and, e_or, e_not, e_ife, e_tup, e_lstF, e_ix, e_sl, e_call, e_bi, e_lc, e_isT, e_inG, e_ixG, es_nil, es_cons, es_star, o_no, o_yes, t_yes, t_and, t_or, t_not, t_val, t_tru, i_seq, i_r1, i_r2, i_enum, getS0, getSs, ofO_s, bindOk, bindEx, thnOk, thnEx, sthnNx, sthnRt, sthnEx, noexOk, endK_rt, endK_nx, endK_ex, c_eq_i, c_ne_i, c_eq_s, c_ne_s, c_lt, c_le, c_gt, c_ge, c_isN, c_notN, o_add, o_sub, o_mul, o_mod, o_div, o_addL, o_addT, tru_bl, tru_i, e_callK, e_callV, e_dct, e_mk, x_par3, x_setD, x_raise0, bi_lenT, bi_lenL, bi_min, bi_min2, bi_max2, bi_abs, bi_int, bi_intb, bi_tupL, bi_tupT, bi_lstT, bi_lstL, sl_L, sl_T, isNon, Option.map, List.set, and_self, if_true, if_false, Bool.false_eq_true, Bool.not_true, Bool.not_false, List.length, List.length_cons, List.length_nil, eq_self, Nat.zero_add, Nat.reduceAdd, Nat.reduceLeDiff, Option.bind_some, Option.isSome_some, decide_true, decide_false, List.length_map, seqOf]) (fun n m G _ _ _ => by simp (disch := first | assumption | omega) only [List.map, List.map_cons, List.map_nil, Nat.reduceSub, List.replicate, List.cons_append, List.nil_append, List.append_nil, xs_cons, xs_nil, x_ret, x_asg, x_par, x_unp, x_drop, x_cond, x_loop, x_wh, x_raise1, x_setL, x_setF, x_app, x_try, e_fld, e_meth, e_lstT, g_nm, g_nil, IG.len, e_non, e_bl, e_int, e_str, e_v, e_g, e_op, e_neg, e_cmp, e_chain, e_and, e_or, e_not, e_ife, e_tup, e_lstF, e_ix, e_sl, e_call, e_bi, e_lc, e_isT, e_inG, e_ixG, es_nil, es_cons, es_star, o_no, o_yes, t_yes, t_and, t_or, t_not, t_val, t_tru, i_seq, i_r1, i_r2, i_enum, getS0, getSs, ofO_s, bindOk, bindEx, thnOk, thnEx, sthnNx, sthnRt, sthnEx, noexOk, endK_rt, endK_nx, endK_ex, c_eq_i, c_ne_i, c_eq_s, c_ne_s, c_lt, c_le, c_gt, c_ge, c_isN, c_notN, o_add, o_sub, o_mul, o_mod, o_div, o_addL, o_addT, tru_bl, tru_i, e_callK, e_callV, e_dct, e_mk, x_par3, x_setD, x_raise0, bi_lenT, bi_lenL, bi_min, bi_min2, bi_max2, bi_abs, bi_int, bi_intb, bi_tupL, bi_tupT, bi_lstT, bi_lstL, sl_L, sl_T, isNon, Option.map, List.set, and_self, if_true, if_false, Bool.false_eq_true, Bool.not_true, Bool.not_false, List.length, List.length_cons, List.length_nil, eq_self, Nat.zero_add, Nat.reduceAdd, Nat.reduceLeDiff, Option.bind_some, Option.isSome_some, decide_true, decide_false, List.length_map, seqOf]) G 64 n 0 hn (by omega) (Nat.le_refl _) wfuel (by unfold wfuel; omega)
  rw [Int.zero_add] at e
  simp (disch := first | assumption | omega) only [List.map, List.map_cons, List.map_nil, Nat.reduceSub, List.replicate, List.cons_append, List.nil_append, List.append_nil, xs_cons, xs_nil, x_ret, x_asg, x_par, x_unp, x_drop, x_cond, x_loop, x_wh, x_raise1, x_setL, x_setF, x_app, x_try, e_fld, e_meth, e_lstT, g_nm, g_nil, IG.len, e_non, e_bl, e_int, e_str, e_v, e_g, e_op, e_neg, e_cmp, e_chain, e_and, e_or, e_not, e_ife, e_tup, e_lstF, e_ix, e_sl, e_call, e_bi, e_lc, e_isT, e_inG, e_ixG, es_nil, es_cons, es_star, o_no, o_yes, t_yes, t_and, t_or, t_not, t_val, t_tru, i_seq, i_r1, i_r2, i_enum, getS0, getSs, ofO_s, bindOk, bindEx, thnOk, thnEx, sthnNx, sthnRt, sthnEx, noexOk, endK_rt, endK_nx, endK_ex, c_eq_i, c_ne_i, c_eq_s, c_ne_s, c_lt, c_le, c_gt, c_ge, c_isN, c_notN, o_add, o_sub, o_mul, o_mod, o_div, o_addL, o_addT, tru_bl, tru_i, e_callK, e_callV, e_dct, e_mk, x_par3, x_setD, x_raise0, bi_lenT, bi_lenL, bi_min, bi_min2, bi_max2, bi_abs, bi_int, bi_intb, bi_tupL, bi_tupT, bi_lstT, bi_lstL, sl_L, sl_T, isNon, Option.map, List.set, and_self, if_true, if_false, Bool.false_eq_true, Bool.not_true, Bool.not_false, List.length, List.length_cons, List.length_nil, eq_self, Nat.zero_add, Nat.reduceAdd, Nat.reduceLeDiff, Option.bind_some, Option.isSome_some, decide_true, decide_false, List.length_map, seqOf, f_signs_parted_by, b_signs_parted_by, e]
theorem d_rest [H_signs_rest_sign I L fs] (u p : Int) (k : Nat) (G : Hh) (hk : 1 ≤ k) (hp : 2 ≤ p) (hp2 : p ≤ 1000) : run L fs k I.signs_rest_sign [.int u, .int p] G = .ok (.int (rs u p)) G := by
  obtain ⟨k, rfl⟩ : ∃ m, k = m + 1 := ⟨k - 1, by omega⟩
  rw [run_at (A_signs_rest_sign L) rfl k _ G rfl]
  have e := lc_map (G := G) (xs := (List.range (p - 1).toNat).map fun i => (1 : Int) + ((i : Nat) : Int)) W.int (fun x => (x * x - u) % p == 0) W.bl
    (step := lcStep [2] (.nm 2) (evT L (run L fs k) .yes) (evE L (run L fs k) (.cmp .eq (.op .mod (.op .sub (.op .mul (.v 2) (.v 2)) (.v 0)) (.v 1)) (.int 0))) [some (.int u), some (.int p), none]) (fun x hx => by
      obtain ⟨i, hi, rfl⟩ := List.mem_map.mp hx
      have hi := List.mem_range.mp hi
      simp (disch := first | assumption | omega) only [List.map, List.map_cons, List.map_nil, Nat.reduceSub, List.replicate, List.cons_append, List.nil_append, List.append_nil, xs_cons, xs_nil, x_ret, x_asg, x_par, x_unp, x_drop, x_cond, x_loop, x_wh, x_raise1, x_setL, x_setF, x_app, x_try, e_fld, e_meth, e_lstT, g_nm, g_nil, IG.len, e_non, e_bl, e_int, e_str, e_v, e_g, e_op, e_neg, e_cmp, e_chain, e_and, e_or, e_not, e_ife, e_tup, e_lstF, e_ix, e_sl, e_call, e_bi, e_lc, e_isT, e_inG, e_ixG, es_nil, es_cons, es_star, o_no, o_yes, t_yes, t_and, t_or, t_not, t_val, t_tru, i_seq, i_r1, i_r2, i_enum, getS0, getSs, ofO_s, bindOk, bindEx, thnOk, thnEx, sthnNx, sthnRt, sthnEx, noexOk, endK_rt, endK_nx, endK_ex, c_eq_i, c_ne_i, c_eq_s, c_ne_s, c_lt, c_le, c_gt, c_ge, c_isN, c_notN, o_add, o_sub, o_mul, o_mod, o_div, o_addL, o_addT, tru_bl, tru_i, e_callK, e_callV, e_dct, e_mk, x_par3, x_setD, x_raise0, bi_lenT, bi_lenL, bi_min, bi_min2, bi_max2, bi_abs, bi_int, bi_intb, bi_tupL, bi_tupT, bi_lstT, bi_lstL, sl_L, sl_T, isNon, Option.map, List.set, and_self, if_true, if_false, Bool.false_eq_true, Bool.not_true, Bool.not_false, List.length, List.length_cons, List.length_nil, eq_self, Nat.zero_add, Nat.reduceAdd, Nat.reduceLeDiff, Option.bind_some, Option.isSome_some, decide_true, decide_false, List.length_map, seqOf, lcStep, bindTg, wipeR])
  have hr : (-1000000 ≤ (1 : Int) ∧ (1 : Int) ≤ 1000000) ∧ -1000000 ≤ p ∧ p ≤ 1000000 := by omega
  have hl : (List.range (p - 1).toNat).length ≤ 1000000 := by rw [List.length_range]; omega
  simp (disch := first | assumption | omega) only [List.map, List.map_cons, List.map_nil, Nat.reduceSub, List.replicate, List.cons_append, List.nil_append, List.append_nil, xs_cons, xs_nil, x_ret, x_asg, x_par, x_unp, x_drop, x_cond, x_loop, x_wh, x_raise1, x_setL, x_setF, x_app, x_try, e_fld, e_meth, e_lstT, g_nm, g_nil, IG.len, e_non, e_bl, e_int, e_str, e_v, e_g, e_op, e_neg, e_cmp, e_chain, e_and, e_or, e_not, e_ife, e_tup, e_lstF, e_ix, e_sl, e_call, e_bi, e_lc, e_isT, e_inG, e_ixG, es_nil, es_cons, es_star, o_no, o_yes, t_yes, t_and, t_or, t_not, t_val, t_tru, i_seq, i_r1, i_r2, i_enum, getS0, getSs, ofO_s, bindOk, bindEx, thnOk, thnEx, sthnNx, sthnRt, sthnEx, noexOk, endK_rt, endK_nx, endK_ex, c_eq_i, c_ne_i, c_eq_s, c_ne_s, c_lt, c_le, c_gt, c_ge, c_isN, c_notN, o_add, o_sub, o_mul, o_mod, o_div, o_addL, o_addT, tru_bl, tru_i, e_callK, e_callV, e_dct, e_mk, x_par3, x_setD, x_raise0, bi_lenT, bi_lenL, bi_min, bi_min2, bi_max2, bi_abs, bi_int, bi_intb, bi_tupL, bi_tupT, bi_lstT, bi_lstL, sl_L, sl_T, isNon, Option.map, List.set, and_self, if_true, if_false, Bool.false_eq_true, Bool.not_true, Bool.not_false, List.length, List.length_cons, List.length_nil, eq_self, Nat.zero_add, Nat.reduceAdd, Nat.reduceLeDiff, Option.bind_some, Option.isSome_some, decide_true, decide_false, List.length_map, seqOf, f_signs_rest_sign, b_signs_rest_sign, hr, range_map, hl, e, bi_any]
  unfold rs rsl
  split <;> simp (disch := first | assumption | omega) only [List.map, List.map_cons, List.map_nil, Nat.reduceSub, List.replicate, List.cons_append, List.nil_append, List.append_nil, xs_cons, xs_nil, x_ret, x_asg, x_par, x_unp, x_drop, x_cond, x_loop, x_wh, x_raise1, x_setL, x_setF, x_app, x_try, e_fld, e_meth, e_lstT, g_nm, g_nil, IG.len, e_non, e_bl, e_int, e_str, e_v, e_g, e_op, e_neg, e_cmp, e_chain, e_and, e_or, e_not, e_ife, e_tup, e_lstF, e_ix, e_sl, e_call, e_bi, e_lc, e_isT, e_inG, e_ixG, es_nil, es_cons, es_star, o_no, o_yes, t_yes, t_and, t_or, t_not, t_val, t_tru, i_seq, i_r1, i_r2, i_enum, getS0, getSs, ofO_s, bindOk, bindEx, thnOk, thnEx, sthnNx, sthnRt, sthnEx, noexOk, endK_rt, endK_nx, endK_ex, c_eq_i, c_ne_i, c_eq_s, c_ne_s, c_lt, c_le, c_gt, c_ge, c_isN, c_notN, o_add, o_sub, o_mul, o_mod, o_div, o_addL, o_addT, tru_bl, tru_i, e_callK, e_callV, e_dct, e_mk, x_par3, x_setD, x_raise0, bi_lenT, bi_lenL, bi_min, bi_min2, bi_max2, bi_abs, bi_int, bi_intb, bi_tupL, bi_tupT, bi_lstT, bi_lstL, sl_L, sl_T, isNon, Option.map, List.set, and_self, if_true, if_false, Bool.false_eq_true, Bool.not_true, Bool.not_false, List.length, List.length_cons, List.length_nil, eq_self, Nat.zero_add, Nat.reduceAdd, Nat.reduceLeDiff, Option.bind_some, Option.isSome_some, decide_true, decide_false, List.length_map, seqOf]
theorem d_two [H_signs_sign_at_two I L fs] (a b : Int) (k : Nat) (G : Hh) (hk : 2 ≤ k) (ha : a ≠ 0) (hb : b ≠ 0) (ha2 : a.natAbs < 18446744073709551616) (hb2 : b.natAbs < 18446744073709551616) : run L fs k I.signs_sign_at_two [.int a, .int b] G = .ok (.int (hs2 a b)) G := by
  obtain ⟨k, rfl⟩ : ∃ m, k = m + 1 := ⟨k - 1, by omega⟩
  rw [run_at (A_signs_sign_at_two L) rfl k _ G rfl]
  have u1 := unt_le (n := a) (p := 2) (by omega) ha
  have u2 := unt_le (n := b) (p := 2) (by omega) hb
  have o1 : ord a 2 < 64 := by
    by_cases h : ord a 2 < 64
    · exact h
    · exfalso
      obtain ⟨q, _⟩ := ord_spec (n := a) (p := 2) (by omega) ha
      have h1 : a.natAbs = ((2 : Int) ^ ord a 2).natAbs * (unt a 2).natAbs := by rw [← Int.natAbs_mul, ← q]
      have h2 : ((2 : Int) ^ ord a 2).natAbs = 2 ^ ord a 2 := by rw [Int.natAbs_pow]; rfl
      have h3 : 2 ^ 64 ≤ 2 ^ ord a 2 := Nat.pow_le_pow_right (by omega) (by omega)
      have h4 : 1 ≤ (unt a 2).natAbs := by have := unt_ne (n := a) (p := 2) (by omega) ha; omega
      have h5 : 2 ^ ord a 2 * 1 ≤ 2 ^ ord a 2 * (unt a 2).natAbs := Nat.mul_le_mul_left _ h4
      rw [h2] at h1
      omega
  have o2 : ord b 2 < 64 := by
    by_cases h : ord b 2 < 64
    · exact h
    · exfalso
      obtain ⟨q, _⟩ := ord_spec (n := b) (p := 2) (by omega) hb
      have h1 : b.natAbs = ((2 : Int) ^ ord b 2).natAbs * (unt b 2).natAbs := by rw [← Int.natAbs_mul, ← q]
      have h2 : ((2 : Int) ^ ord b 2).natAbs = 2 ^ ord b 2 := by rw [Int.natAbs_pow]; rfl
      have h3 : 2 ^ 64 ≤ 2 ^ ord b 2 := Nat.pow_le_pow_right (by omega) (by omega)
      have h4 : 1 ≤ (unt b 2).natAbs := by have := unt_ne (n := b) (p := 2) (by omega) hb; omega
      have h5 : 2 ^ ord b 2 * 1 ≤ 2 ^ ord b 2 * (unt b 2).natAbs := Nat.mul_le_mul_left _ h4
      rw [h2] at h1
      omega
  simp (disch := first | assumption | omega) only [List.map, List.map_cons, List.map_nil, Nat.reduceSub, List.replicate, List.cons_append, List.nil_append, List.append_nil, xs_cons, xs_nil, x_ret, x_asg, x_par, x_unp, x_drop, x_cond, x_loop, x_wh, x_raise1, x_setL, x_setF, x_app, x_try, e_fld, e_meth, e_lstT, g_nm, g_nil, IG.len, e_non, e_bl, e_int, e_str, e_v, e_g, e_op, e_neg, e_cmp, e_chain, e_and, e_or, e_not, e_ife, e_tup, e_lstF, e_ix, e_sl, e_call, e_bi, e_lc, e_isT, e_inG, e_ixG, es_nil, es_cons, es_star, o_no, o_yes, t_yes, t_and, t_or, t_not, t_val, t_tru, i_seq, i_r1, i_r2, i_enum, getS0, getSs, ofO_s, bindOk, bindEx, thnOk, thnEx, sthnNx, sthnRt, sthnEx, noexOk, endK_rt, endK_nx, endK_ex, c_eq_i, c_ne_i, c_eq_s, c_ne_s, c_lt, c_le, c_gt, c_ge, c_isN, c_notN, o_add, o_sub, o_mul, o_mod, o_div, o_addL, o_addT, tru_bl, tru_i, e_callK, e_callV, e_dct, e_mk, x_par3, x_setD, x_raise0, bi_lenT, bi_lenL, bi_min, bi_min2, bi_max2, bi_abs, bi_int, bi_intb, bi_tupL, bi_tupT, bi_lstT, bi_lstL, sl_L, sl_T, isNon, Option.map, List.set, and_self, if_true, if_false, Bool.false_eq_true, Bool.not_true, Bool.not_false, List.length, List.length_cons, List.length_nil, eq_self, Nat.zero_add, Nat.reduceAdd, Nat.reduceLeDiff, Option.bind_some, Option.isSome_some, decide_true, decide_false, List.length_map, seqOf, f_signs_sign_at_two, b_signs_sign_at_two, d_parted, d_odd]
  unfold hs2 told2
  split <;> simp (disch := first | assumption | omega) only [List.map, List.map_cons, List.map_nil, Nat.reduceSub, List.replicate, List.cons_append, List.nil_append, List.append_nil, xs_cons, xs_nil, x_ret, x_asg, x_par, x_unp, x_drop, x_cond, x_loop, x_wh, x_raise1, x_setL, x_setF, x_app, x_try, e_fld, e_meth, e_lstT, g_nm, g_nil, IG.len, e_non, e_bl, e_int, e_str, e_v, e_g, e_op, e_neg, e_cmp, e_chain, e_and, e_or, e_not, e_ife, e_tup, e_lstF, e_ix, e_sl, e_call, e_bi, e_lc, e_isT, e_inG, e_ixG, es_nil, es_cons, es_star, o_no, o_yes, t_yes, t_and, t_or, t_not, t_val, t_tru, i_seq, i_r1, i_r2, i_enum, getS0, getSs, ofO_s, bindOk, bindEx, thnOk, thnEx, sthnNx, sthnRt, sthnEx, noexOk, endK_rt, endK_nx, endK_ex, c_eq_i, c_ne_i, c_eq_s, c_ne_s, c_lt, c_le, c_gt, c_ge, c_isN, c_notN, o_add, o_sub, o_mul, o_mod, o_div, o_addL, o_addT, tru_bl, tru_i, e_callK, e_callV, e_dct, e_mk, x_par3, x_setD, x_raise0, bi_lenT, bi_lenL, bi_min, bi_min2, bi_max2, bi_abs, bi_int, bi_intb, bi_tupL, bi_tupT, bi_lstT, bi_lstL, sl_L, sl_T, isNon, Option.map, List.set, and_self, if_true, if_false, Bool.false_eq_true, Bool.not_true, Bool.not_false, List.length, List.length_cons, List.length_nil, eq_self, Nat.zero_add, Nat.reduceAdd, Nat.reduceLeDiff, Option.bind_some, Option.isSome_some, decide_true, decide_false, List.length_map, seqOf]

theorem d_atodd [H_signs_sign_at_odd I L fs] (a b p : Int) (k : Nat) (G : Hh) (hk : 2 ≤ k) (ha : a ≠ 0) (hb : b ≠ 0) (ha2 : a.natAbs < 18446744073709551616) (hb2 : b.natAbs < 18446744073709551616) (hp : 2 ≤ p) (hp2 : p ≤ 1000) :
    run L fs k I.signs_sign_at_odd [.int a, .int b, .int p] G = .ok (.int (hsp a b p)) G := by
  obtain ⟨k, rfl⟩ : ∃ m, k = m + 1 := ⟨k - 1, by omega⟩
  rw [run_at (A_signs_sign_at_odd L) rfl k _ G rfl]
  have r1 := rs_pm (unt a p) p
  have r2 := rs_pm (unt b p) p
  cases h1 : odd ((ord a p : Nat) : Int) <;> cases h2 : odd ((ord b p : Nat) : Int) <;> cases h3 : odd ((p - 1) / 2) <;>
    simp (disch := first | assumption | omega) only [List.map, List.map_cons, List.map_nil, Nat.reduceSub, List.replicate, List.cons_append, List.nil_append, List.append_nil, xs_cons, xs_nil, x_ret, x_asg, x_par, x_unp, x_drop, x_cond, x_loop, x_wh, x_raise1, x_setL, x_setF, x_app, x_try, e_fld, e_meth, e_lstT, g_nm, g_nil, IG.len, e_non, e_bl, e_int, e_str, e_v, e_g, e_op, e_neg, e_cmp, e_chain, e_and, e_or, e_not, e_ife, e_tup, e_lstF, e_ix, e_sl, e_call, e_bi, e_lc, e_isT, e_inG, e_ixG, es_nil, es_cons, es_star, o_no, o_yes, t_yes, t_and, t_or, t_not, t_val, t_tru, i_seq, i_r1, i_r2, i_enum, getS0, getSs, ofO_s, bindOk, bindEx, thnOk, thnEx, sthnNx, sthnRt, sthnEx, noexOk, endK_rt, endK_nx, endK_ex, c_eq_i, c_ne_i, c_eq_s, c_ne_s, c_lt, c_le, c_gt, c_ge, c_isN, c_notN, o_add, o_sub, o_mul, o_mod, o_div, o_addL, o_addT, tru_bl, tru_i, e_callK, e_callV, e_dct, e_mk, x_par3, x_setD, x_raise0, bi_lenT, bi_lenL, bi_min, bi_min2, bi_max2, bi_abs, bi_int, bi_intb, bi_tupL, bi_tupT, bi_lstT, bi_lstL, sl_L, sl_T, isNon, Option.map, List.set, and_self, if_true, if_false, Bool.false_eq_true, Bool.not_true, Bool.not_false, List.length, List.length_cons, List.length_nil, eq_self, Nat.zero_add, Nat.reduceAdd, Nat.reduceLeDiff, Option.bind_some, Option.isSome_some, decide_true, decide_false, List.length_map, seqOf, f_signs_sign_at_odd, b_signs_sign_at_odd, d_parted, d_odd, d_rest, h1, h2, h3, hsp, hsp1, hsp0, Bool.and_self, Bool.and_true, Bool.and_false, Bool.true_and, Bool.false_and, Int.one_mul, Int.neg_mul]
theorem d_sign [H_signs_sign_by I L fs] (a b p : Int) (k : Nat) (G : Hh) (hk : 3 ≤ k) (ha : a ≠ 0) (hb : b ≠ 0) (ha2 : a.natAbs < 18446744073709551616) (hb2 : b.natAbs < 18446744073709551616) (hp : p = 0 ∨ 2 ≤ p) (hp2 : p ≤ 1000) :
    run L fs k I.signs_sign_by [.int a, .int b, .int p] G = .ok (.int (hs a b p)) G := by
  obtain ⟨k, rfl⟩ : ∃ m, k = m + 1 := ⟨k - 1, by omega⟩
  rw [run_at (A_signs_sign_by L) rfl k _ G rfl]
  unfold hs
  by_cases h0 : p = 0
  · subst h0
    cases h1 : decide (a < 0) <;> cases h2 : decide (b < 0) <;> simp (disch := first | assumption | omega) only [List.map, List.map_cons, List.map_nil, Nat.reduceSub, List.replicate, List.cons_append, List.nil_append, List.append_nil, xs_cons, xs_nil, x_ret, x_asg, x_par, x_unp, x_drop, x_cond, x_loop, x_wh, x_raise1, x_setL, x_setF, x_app, x_try, e_fld, e_meth, e_lstT, g_nm, g_nil, IG.len, e_non, e_bl, e_int, e_str, e_v, e_g, e_op, e_neg, e_cmp, e_chain, e_and, e_or, e_not, e_ife, e_tup, e_lstF, e_ix, e_sl, e_call, e_bi, e_lc, e_isT, e_inG, e_ixG, es_nil, es_cons, es_star, o_no, o_yes, t_yes, t_and, t_or, t_not, t_val, t_tru, i_seq, i_r1, i_r2, i_enum, getS0, getSs, ofO_s, bindOk, bindEx, thnOk, thnEx, sthnNx, sthnRt, sthnEx, noexOk, endK_rt, endK_nx, endK_ex, c_eq_i, c_ne_i, c_eq_s, c_ne_s, c_lt, c_le, c_gt, c_ge, c_isN, c_notN, o_add, o_sub, o_mul, o_mod, o_div, o_addL, o_addT, tru_bl, tru_i, e_callK, e_callV, e_dct, e_mk, x_par3, x_setD, x_raise0, bi_lenT, bi_lenL, bi_min, bi_min2, bi_max2, bi_abs, bi_int, bi_intb, bi_tupL, bi_tupT, bi_lstT, bi_lstL, sl_L, sl_T, isNon, Option.map, List.set, and_self, if_true, if_false, Bool.false_eq_true, Bool.not_true, Bool.not_false, List.length, List.length_cons, List.length_nil, eq_self, Nat.zero_add, Nat.reduceAdd, Nat.reduceLeDiff, Option.bind_some, Option.isSome_some, decide_true, decide_false, List.length_map, seqOf, f_signs_sign_by, b_signs_sign_by, h1, h2, beq_self_eq_true, Bool.and_self, Bool.and_true, Bool.and_false]
  · by_cases h2 : p = 2
    · subst h2
      simp (disch := first | assumption | omega) only [List.map, List.map_cons, List.map_nil, Nat.reduceSub, List.replicate, List.cons_append, List.nil_append, List.append_nil, xs_cons, xs_nil, x_ret, x_asg, x_par, x_unp, x_drop, x_cond, x_loop, x_wh, x_raise1, x_setL, x_setF, x_app, x_try, e_fld, e_meth, e_lstT, g_nm, g_nil, IG.len, e_non, e_bl, e_int, e_str, e_v, e_g, e_op, e_neg, e_cmp, e_chain, e_and, e_or, e_not, e_ife, e_tup, e_lstF, e_ix, e_sl, e_call, e_bi, e_lc, e_isT, e_inG, e_ixG, es_nil, es_cons, es_star, o_no, o_yes, t_yes, t_and, t_or, t_not, t_val, t_tru, i_seq, i_r1, i_r2, i_enum, getS0, getSs, ofO_s, bindOk, bindEx, thnOk, thnEx, sthnNx, sthnRt, sthnEx, noexOk, endK_rt, endK_nx, endK_ex, c_eq_i, c_ne_i, c_eq_s, c_ne_s, c_lt, c_le, c_gt, c_ge, c_isN, c_notN, o_add, o_sub, o_mul, o_mod, o_div, o_addL, o_addT, tru_bl, tru_i, e_callK, e_callV, e_dct, e_mk, x_par3, x_setD, x_raise0, bi_lenT, bi_lenL, bi_min, bi_min2, bi_max2, bi_abs, bi_int, bi_intb, bi_tupL, bi_tupT, bi_lstT, bi_lstL, sl_L, sl_T, isNon, Option.map, List.set, and_self, if_true, if_false, Bool.false_eq_true, Bool.not_true, Bool.not_false, List.length, List.length_cons, List.length_nil, eq_self, Nat.zero_add, Nat.reduceAdd, Nat.reduceLeDiff, Option.bind_some, Option.isSome_some, decide_true, decide_false, List.length_map, seqOf, f_signs_sign_by, b_signs_sign_by, d_two, beq_self_eq_true, h0, beq_iff_eq]
    · have z1 : (p == 0) = false := by simpa using h0
      have z2 : (p == 2) = false := by simpa using h2
      simp (disch := first | assumption | omega) only [List.map, List.map_cons, List.map_nil, Nat.reduceSub, List.replicate, List.cons_append, List.nil_append, List.append_nil, xs_cons, xs_nil, x_ret, x_asg, x_par, x_unp, x_drop, x_cond, x_loop, x_wh, x_raise1, x_setL, x_setF, x_app, x_try, e_fld, e_meth, e_lstT, g_nm, g_nil, IG.len, e_non, e_bl, e_int, e_str, e_v, e_g, e_op, e_neg, e_cmp, e_chain, e_and, e_or, e_not, e_ife, e_tup, e_lstF, e_ix, e_sl, e_call, e_bi, e_lc, e_isT, e_inG, e_ixG, es_nil, es_cons, es_star, o_no, o_yes, t_yes, t_and, t_or, t_not, t_val, t_tru, i_seq, i_r1, i_r2, i_enum, getS0, getSs, ofO_s, bindOk, bindEx, thnOk, thnEx, sthnNx, sthnRt, sthnEx, noexOk, endK_rt, endK_nx, endK_ex, c_eq_i, c_ne_i, c_eq_s, c_ne_s, c_lt, c_le, c_gt, c_ge, c_isN, c_notN, o_add, o_sub, o_mul, o_mod, o_div, o_addL, o_addT, tru_bl, tru_i, e_callK, e_callV, e_dct, e_mk, x_par3, x_setD, x_raise0, bi_lenT, bi_lenL, bi_min, bi_min2, bi_max2, bi_abs, bi_int, bi_intb, bi_tupL, bi_tupT, bi_lstT, bi_lstL, sl_L, sl_T, isNon, Option.map, List.set, and_self, if_true, if_false, Bool.false_eq_true, Bool.not_true, Bool.not_false, List.length, List.length_cons, List.length_nil, eq_self, Nat.zero_add, Nat.reduceAdd, Nat.reduceLeDiff, Option.bind_some, Option.isSome_some, decide_true, decide_false, List.length_map, seqOf, f_signs_sign_by, b_signs_sign_by, d_atodd, z1, z2, h0, h2]
theorem d_square [H_signs_is_square_by I L fs] (n p : Int) (k : Nat) (G : Hh) (hk : 2 ≤ k) (hn : n ≠ 0) (hn2 : n.natAbs < 18446744073709551616) (hp : p = 0 ∨ 2 ≤ p) (hp2 : p ≤ 1000) :
    run L fs k I.signs_is_square_by [.int n, .int p] G = .ok (.bl (isq n p)) G := by
  obtain ⟨k, rfl⟩ : ∃ m, k = m + 1 := ⟨k - 1, by omega⟩
  rw [run_at (A_signs_is_square_by L) rfl k _ G rfl]
  unfold isq
  by_cases h0 : p = 0
  · subst h0
    simp (disch := first | assumption | omega) only [List.map, List.map_cons, List.map_nil, Nat.reduceSub, List.replicate, List.cons_append, List.nil_append, List.append_nil, xs_cons, xs_nil, x_ret, x_asg, x_par, x_unp, x_drop, x_cond, x_loop, x_wh, x_raise1, x_setL, x_setF, x_app, x_try, e_fld, e_meth, e_lstT, g_nm, g_nil, IG.len, e_non, e_bl, e_int, e_str, e_v, e_g, e_op, e_neg, e_cmp, e_chain, e_and, e_or, e_not, e_ife, e_tup, e_lstF, e_ix, e_sl, e_call, e_bi, e_lc, e_isT, e_inG, e_ixG, es_nil, es_cons, es_star, o_no, o_yes, t_yes, t_and, t_or, t_not, t_val, t_tru, i_seq, i_r1, i_r2, i_enum, getS0, getSs, ofO_s, bindOk, bindEx, thnOk, thnEx, sthnNx, sthnRt, sthnEx, noexOk, endK_rt, endK_nx, endK_ex, c_eq_i, c_ne_i, c_eq_s, c_ne_s, c_lt, c_le, c_gt, c_ge, c_isN, c_notN, o_add, o_sub, o_mul, o_mod, o_div, o_addL, o_addT, tru_bl, tru_i, e_callK, e_callV, e_dct, e_mk, x_par3, x_setD, x_raise0, bi_lenT, bi_lenL, bi_min, bi_min2, bi_max2, bi_abs, bi_int, bi_intb, bi_tupL, bi_tupT, bi_lstT, bi_lstL, sl_L, sl_T, isNon, Option.map, List.set, and_self, if_true, if_false, Bool.false_eq_true, Bool.not_true, Bool.not_false, List.length, List.length_cons, List.length_nil, eq_self, Nat.zero_add, Nat.reduceAdd, Nat.reduceLeDiff, Option.bind_some, Option.isSome_some, decide_true, decide_false, List.length_map, seqOf, f_signs_is_square_by, b_signs_is_square_by, beq_self_eq_true]
  · have z1 : (p == 0) = false := by simpa using h0
    by_cases h2 : p = 2
    · subst h2
      cases h1 : odd ((ord n 2 : Nat) : Int) <;> simp (disch := first | assumption | omega) only [List.map, List.map_cons, List.map_nil, Nat.reduceSub, List.replicate, List.cons_append, List.nil_append, List.append_nil, xs_cons, xs_nil, x_ret, x_asg, x_par, x_unp, x_drop, x_cond, x_loop, x_wh, x_raise1, x_setL, x_setF, x_app, x_try, e_fld, e_meth, e_lstT, g_nm, g_nil, IG.len, e_non, e_bl, e_int, e_str, e_v, e_g, e_op, e_neg, e_cmp, e_chain, e_and, e_or, e_not, e_ife, e_tup, e_lstF, e_ix, e_sl, e_call, e_bi, e_lc, e_isT, e_inG, e_ixG, es_nil, es_cons, es_star, o_no, o_yes, t_yes, t_and, t_or, t_not, t_val, t_tru, i_seq, i_r1, i_r2, i_enum, getS0, getSs, ofO_s, bindOk, bindEx, thnOk, thnEx, sthnNx, sthnRt, sthnEx, noexOk, endK_rt, endK_nx, endK_ex, c_eq_i, c_ne_i, c_eq_s, c_ne_s, c_lt, c_le, c_gt, c_ge, c_isN, c_notN, o_add, o_sub, o_mul, o_mod, o_div, o_addL, o_addT, tru_bl, tru_i, e_callK, e_callV, e_dct, e_mk, x_par3, x_setD, x_raise0, bi_lenT, bi_lenL, bi_min, bi_min2, bi_max2, bi_abs, bi_int, bi_intb, bi_tupL, bi_tupT, bi_lstT, bi_lstL, sl_L, sl_T, isNon, Option.map, List.set, and_self, if_true, if_false, Bool.false_eq_true, Bool.not_true, Bool.not_false, List.length, List.length_cons, List.length_nil, eq_self, Nat.zero_add, Nat.reduceAdd, Nat.reduceLeDiff, Option.bind_some, Option.isSome_some, decide_true, decide_false, List.length_map, seqOf, f_signs_is_square_by, b_signs_is_square_by, d_parted, d_odd, z1, h0, h1, beq_self_eq_true]
    · have z2 : (p == 2) = false := by simpa using h2
      cases h1 : odd ((ord n p : Nat) : Int) <;> simp (disch := first | assumption | omega) only [List.map, List.map_cons, List.map_nil, Nat.reduceSub, List.replicate, List.cons_append, List.nil_append, List.append_nil, xs_cons, xs_nil, x_ret, x_asg, x_par, x_unp, x_drop, x_cond, x_loop, x_wh, x_raise1, x_setL, x_setF, x_app, x_try, e_fld, e_meth, e_lstT, g_nm, g_nil, IG.len, e_non, e_bl, e_int, e_str, e_v, e_g, e_op, e_neg, e_cmp, e_chain, e_and, e_or, e_not, e_ife, e_tup, e_lstF, e_ix, e_sl, e_call, e_bi, e_lc, e_isT, e_inG, e_ixG, es_nil, es_cons, es_star, o_no, o_yes, t_yes, t_and, t_or, t_not, t_val, t_tru, i_seq, i_r1, i_r2, i_enum, getS0, getSs, ofO_s, bindOk, bindEx, thnOk, thnEx, sthnNx, sthnRt, sthnEx, noexOk, endK_rt, endK_nx, endK_ex, c_eq_i, c_ne_i, c_eq_s, c_ne_s, c_lt, c_le, c_gt, c_ge, c_isN, c_notN, o_add, o_sub, o_mul, o_mod, o_div, o_addL, o_addT, tru_bl, tru_i, e_callK, e_callV, e_dct, e_mk, x_par3, x_setD, x_raise0, bi_lenT, bi_lenL, bi_min, bi_min2, bi_max2, bi_abs, bi_int, bi_intb, bi_tupL, bi_tupT, bi_lstT, bi_lstL, sl_L, sl_T, isNon, Option.map, List.set, and_self, if_true, if_false, Bool.false_eq_true, Bool.not_true, Bool.not_false, List.length, List.length_cons, List.length_nil, eq_self, Nat.zero_add, Nat.reduceAdd, Nat.reduceLeDiff, Option.bind_some, Option.isSome_some, decide_true, decide_false, List.length_map, seqOf, f_signs_is_square_by, b_signs_is_square_by, d_parted, d_odd, d_rest, z1, z2, h0, h2, h1]
end
end PI
end

section
set_option autoImplicit false
set_option maxHeartbeats 2000000
/-! S2: forms: part, size, sign, places. -/
namespace PI
open PySem (Str PyData)
open NF
/-- weights that are not too great, not too many of them -/
def Fm (form : List Int) : Prop := (∀ w ∈ form, w ≠ 0 ∧ w.natAbs < 18446744073709551616) ∧ form.length ≤ 1000
abbrev iT (l : List Int) : W := .tup (l.map .int)
abbrev iL (l : List Int) : W := .lst (l.map .int)
theorem prs_bd : ∀ p ∈ prs, 2 ≤ p ∧ p ≤ 97 := by decide
section
variable {I : Ix} {L : Lib} {fs : List Fn}
theorem g_primes [H_g_signs_PRIMES I L] : L.gs[I.g_signs_PRIMES]? = some (.tup (prs.map .int)) := A_g_signs_PRIMES
theorem g_places [H_g_signs_PLACES I L] : L.gs[I.g_signs_PLACES]? = some (.tup ((0 :: prs).map .int)) := A_g_signs_PLACES
theorem d_size [H_signs_size_by I L fs] (form : List Int) (k : Nat) (G : Hh) (hk : 1 ≤ k) (hl : form.length ≤ 1000) : run L fs k I.signs_size_by [iT form] G = .ok (.tup [.int (above form), .int ((form.length : Nat) - above form)]) G := by
  obtain ⟨k, rfl⟩ : ∃ m, k = m + 1 := ⟨k - 1, by omega⟩
  rw [run_at (A_signs_size_by L) rfl k _ G rfl]
  have e := lc_filt (G := G) (xs := form) W.int (fun w => decide (0 < w)) (step := lcStep [1] (.nm 1) (evT L (run L fs k) (.val (.cmp .gt (.v 1) (.int 0)))) (evE L (run L fs k) (.v 1)) [some (iT form), none, none]) (fun w _ => by
    cases h : decide (0 < w) <;> simp (disch := first | assumption | omega) only [List.map, List.map_cons, List.map_nil, Nat.reduceSub, List.replicate, List.cons_append, List.nil_append, List.append_nil, xs_cons, xs_nil, x_ret, x_asg, x_par, x_unp, x_drop, x_cond, x_loop, x_wh, x_raise1, x_setL, x_setF, x_app, x_try, e_fld, e_meth, e_lstT, g_nm, g_nil, IG.len, e_non, e_bl, e_int, e_str, e_v, e_g, e_op, e_neg, e_cmp, e_chain, e_and, e_or, e_not, e_ife, e_tup, e_lstF, e_ix, e_sl, e_call, e_bi, e_lc, e_isT, e_inG, e_ixG, es_nil, es_cons, es_star, o_no, o_yes, t_yes, t_and, t_or, t_not, t_val, t_tru, i_seq, i_r1, i_r2, i_enum, getS0, getSs, ofO_s, bindOk, bindEx, thnOk, thnEx, sthnNx, sthnRt, sthnEx, noexOk, endK_rt, endK_nx, endK_ex, c_eq_i, c_ne_i, c_eq_s, c_ne_s, c_lt, c_le, c_gt, c_ge, c_isN, c_notN, o_add, o_sub, o_mul, o_mod, o_div, o_addL, o_addT, tru_bl, tru_i, e_callK, e_callV, e_dct, e_mk, x_par3, x_setD, x_raise0, bi_lenT, bi_lenL, bi_min, bi_min2, bi_max2, bi_abs, bi_int, bi_intb, bi_tupL, bi_tupT, bi_lstT, bi_lstL, sl_L, sl_T, isNon, Option.map, List.set, and_self, if_true, if_false, Bool.false_eq_true, Bool.not_true, Bool.not_false, List.length, List.length_cons, List.length_nil, eq_self, Nat.zero_add, Nat.reduceAdd, Nat.reduceLeDiff, Option.bind_some, Option.isSome_some, decide_true, decide_false, List.length_map, seqOf, lcStep, bindTg, wipeR, h])
  have hz : form.length ≤ 1000000 := by omega
  unfold above
  simp (disch := first | assumption | omega) only [List.map, List.map_cons, List.map_nil, Nat.reduceSub, List.replicate, List.cons_append, List.nil_append, List.append_nil, xs_cons, xs_nil, x_ret, x_asg, x_par, x_unp, x_drop, x_cond, x_loop, x_wh, x_raise1, x_setL, x_setF, x_app, x_try, e_fld, e_meth, e_lstT, g_nm, g_nil, IG.len, e_non, e_bl, e_int, e_str, e_v, e_g, e_op, e_neg, e_cmp, e_chain, e_and, e_or, e_not, e_ife, e_tup, e_lstF, e_ix, e_sl, e_call, e_bi, e_lc, e_isT, e_inG, e_ixG, es_nil, es_cons, es_star, o_no, o_yes, t_yes, t_and, t_or, t_not, t_val, t_tru, i_seq, i_r1, i_r2, i_enum, getS0, getSs, ofO_s, bindOk, bindEx, thnOk, thnEx, sthnNx, sthnRt, sthnEx, noexOk, endK_rt, endK_nx, endK_ex, c_eq_i, c_ne_i, c_eq_s, c_ne_s, c_lt, c_le, c_gt, c_ge, c_isN, c_notN, o_add, o_sub, o_mul, o_mod, o_div, o_addL, o_addT, tru_bl, tru_i, e_callK, e_callV, e_dct, e_mk, x_par3, x_setD, x_raise0, bi_lenT, bi_lenL, bi_min, bi_min2, bi_max2, bi_abs, bi_int, bi_intb, bi_tupL, bi_tupT, bi_lstT, bi_lstL, sl_L, sl_T, isNon, Option.map, List.set, and_self, if_true, if_false, Bool.false_eq_true, Bool.not_true, Bool.not_false, List.length, List.length_cons, List.length_nil, eq_self, Nat.zero_add, Nat.reduceAdd, Nat.reduceLeDiff, Option.bind_some, Option.isSome_some, decide_true, decide_false, List.length_map, seqOf, f_signs_size_by, b_signs_size_by, e, hz]
theorem d_part [H_signs_part_by I L fs] (form : List Int) (k : Nat) (G : Hh) (hk : 2 ≤ k) (hf : Fm form) : run L fs k I.signs_part_by [iT form] G = .ok (.int (part form)) G := by
  obtain ⟨k, rfl⟩ : ∃ m, k = m + 1 := ⟨k - 1, by omega⟩
  rw [run_at (A_signs_part_by L) rfl k _ G rfl]
  have hz : form.length ≤ 1000000 := by have := hf.2; omega
  obtain ⟨ρ', e1, y, z, rfl⟩ := loop_fold (G := G) W.int (fun f ρ => ∃ (y z : Option W), ρ = [some (iT form), some (.int f), y, z]) (fun f p => if odd (ordS form p) = true then f * p else f) (xs := prs)
    (step := forStep (.nm 2) (exSs L (run L fs k) (.cons (.cond (.tru (.call I.signs_is_odd (.cons (.bi .sum (.cons (.lc [3] (.nm 3) (.seq (.v 0)) .yes (.ix (.call I.signs_parted_by (.cons (.v 3) (.cons (.v 2) .nil)) []) (.int 0))) .nil)) .nil) [])) (.cons (.asg 1 (.op .mul (.v 1) (.v 2))) .nil) .nil) .nil)))
    (s := 1) (ρ := [some (iT form), some (.int 1), none, none]) (fun p hp f ρ ⟨y, z, e⟩ => by
      subst e
      have hpb := prs_bd p hp
      have e := lc_map (G := G) (xs := form) W.int (fun w => ((ord w p : Nat) : Int)) W.int (step := lcStep [3] (.nm 3) (evT L (run L fs k) .yes) (evE L (run L fs k) (.ix (.call I.signs_parted_by (.cons (.v 3) (.cons (.v 2) .nil)) []) (.int 0))) [some (iT form), some (.int f), some (.int p), z]) (fun w hw => by
        obtain ⟨h1, h2⟩ := hf.1 w hw
        simp (disch := first | assumption | omega) only [List.map, List.map_cons, List.map_nil, Nat.reduceSub, List.replicate, List.cons_append, List.nil_append, List.append_nil, xs_cons, xs_nil, x_ret, x_asg, x_par, x_unp, x_drop, x_cond, x_loop, x_wh, x_raise1, x_setL, x_setF, x_app, x_try, e_fld, e_meth, e_lstT, g_nm, g_nil, IG.len, e_non, e_bl, e_int, e_str, e_v, e_g, e_op, e_neg, e_cmp, e_chain, e_and, e_or, e_not, e_ife, e_tup, e_lstF, e_ix, e_sl, e_call, e_bi, e_lc, e_isT, e_inG, e_ixG, es_nil, es_cons, es_star, o_no, o_yes, t_yes, t_and, t_or, t_not, t_val, t_tru, i_seq, i_r1, i_r2, i_enum, getS0, getSs, ofO_s, bindOk, bindEx, thnOk, thnEx, sthnNx, sthnRt, sthnEx, noexOk, endK_rt, endK_nx, endK_ex, c_eq_i, c_ne_i, c_eq_s, c_ne_s, c_lt, c_le, c_gt, c_ge, c_isN, c_notN, o_add, o_sub, o_mul, o_mod, o_div, o_addL, o_addT, tru_bl, tru_i, e_callK, e_callV, e_dct, e_mk, x_par3, x_setD, x_raise0, bi_lenT, bi_lenL, bi_min, bi_min2, bi_max2, bi_abs, bi_int, bi_intb, bi_tupL, bi_tupT, bi_lstT, bi_lstL, sl_L, sl_T, isNon, Option.map, List.set, and_self, if_true, if_false, Bool.false_eq_true, Bool.not_true, Bool.not_false, List.length, List.length_cons, List.length_nil, eq_self, Nat.zero_add, Nat.reduceAdd, Nat.reduceLeDiff, Option.bind_some, Option.isSome_some, decide_true, decide_false, List.length_map, seqOf, lcStep, bindTg, wipeR, d_parted, ix0])
      refine ⟨[some (iT form), some (.int (if odd (ordS form p) = true then f * p else f)), some (.int p), z], ?_, _, _, rfl⟩
      have hs : (form.map fun w => ((ord w p : Nat) : Int)).sum = ordS form p := rfl
      cases h : odd (ordS form p) <;> simp (disch := first | assumption | omega) only [List.map, List.map_cons, List.map_nil, Nat.reduceSub, List.replicate, List.cons_append, List.nil_append, List.append_nil, xs_cons, xs_nil, x_ret, x_asg, x_par, x_unp, x_drop, x_cond, x_loop, x_wh, x_raise1, x_setL, x_setF, x_app, x_try, e_fld, e_meth, e_lstT, g_nm, g_nil, IG.len, e_non, e_bl, e_int, e_str, e_v, e_g, e_op, e_neg, e_cmp, e_chain, e_and, e_or, e_not, e_ife, e_tup, e_lstF, e_ix, e_sl, e_call, e_bi, e_lc, e_isT, e_inG, e_ixG, es_nil, es_cons, es_star, o_no, o_yes, t_yes, t_and, t_or, t_not, t_val, t_tru, i_seq, i_r1, i_r2, i_enum, getS0, getSs, ofO_s, bindOk, bindEx, thnOk, thnEx, sthnNx, sthnRt, sthnEx, noexOk, endK_rt, endK_nx, endK_ex, c_eq_i, c_ne_i, c_eq_s, c_ne_s, c_lt, c_le, c_gt, c_ge, c_isN, c_notN, o_add, o_sub, o_mul, o_mod, o_div, o_addL, o_addT, tru_bl, tru_i, e_callK, e_callV, e_dct, e_mk, x_par3, x_setD, x_raise0, bi_lenT, bi_lenL, bi_min, bi_min2, bi_max2, bi_abs, bi_int, bi_intb, bi_tupL, bi_tupT, bi_lstT, bi_lstL, sl_L, sl_T, isNon, Option.map, List.set, and_self, if_true, if_false, Bool.false_eq_true, Bool.not_true, Bool.not_false, List.length, List.length_cons, List.length_nil, eq_self, Nat.zero_add, Nat.reduceAdd, Nat.reduceLeDiff, Option.bind_some, Option.isSome_some, decide_true, decide_false, List.length_map, seqOf, forStep, bindTg, hz, e, bi_sum, hs, d_odd, h]) ⟨none, none, rfl⟩
  have e2 := lc_filt (G := G) (xs := form) W.int (fun w => decide (w < 0)) (step := lcStep [3] (.nm 3) (evT L (run L fs k) (.val (.cmp .lt (.v 3) (.int 0)))) (evE L (run L fs k) (.v 3)) [some (iT form), some (.int (parA form)), y, z]) (fun w _ => by
    cases h : decide (w < 0) <;> simp (disch := first | assumption | omega) only [List.map, List.map_cons, List.map_nil, Nat.reduceSub, List.replicate, List.cons_append, List.nil_append, List.append_nil, xs_cons, xs_nil, x_ret, x_asg, x_par, x_unp, x_drop, x_cond, x_loop, x_wh, x_raise1, x_setL, x_setF, x_app, x_try, e_fld, e_meth, e_lstT, g_nm, g_nil, IG.len, e_non, e_bl, e_int, e_str, e_v, e_g, e_op, e_neg, e_cmp, e_chain, e_and, e_or, e_not, e_ife, e_tup, e_lstF, e_ix, e_sl, e_call, e_bi, e_lc, e_isT, e_inG, e_ixG, es_nil, es_cons, es_star, o_no, o_yes, t_yes, t_and, t_or, t_not, t_val, t_tru, i_seq, i_r1, i_r2, i_enum, getS0, getSs, ofO_s, bindOk, bindEx, thnOk, thnEx, sthnNx, sthnRt, sthnEx, noexOk, endK_rt, endK_nx, endK_ex, c_eq_i, c_ne_i, c_eq_s, c_ne_s, c_lt, c_le, c_gt, c_ge, c_isN, c_notN, o_add, o_sub, o_mul, o_mod, o_div, o_addL, o_addT, tru_bl, tru_i, e_callK, e_callV, e_dct, e_mk, x_par3, x_setD, x_raise0, bi_lenT, bi_lenL, bi_min, bi_min2, bi_max2, bi_abs, bi_int, bi_intb, bi_tupL, bi_tupT, bi_lstT, bi_lstL, sl_L, sl_T, isNon, Option.map, List.set, and_self, if_true, if_false, Bool.false_eq_true, Bool.not_true, Bool.not_false, List.length, List.length_cons, List.length_nil, eq_self, Nat.zero_add, Nat.reduceAdd, Nat.reduceLeDiff, Option.bind_some, Option.isSome_some, decide_true, decide_false, List.length_map, seqOf, lcStep, bindTg, wipeR, h])
  change _ = RS.nx [_, some (W.int (parA form)), _, _] _ at e1
  unfold part
  cases h : odd ((form.filter fun w => decide (w < 0)).length : Nat) <;> simp (disch := first | assumption | omega) only [List.map, List.map_cons, List.map_nil, Nat.reduceSub, List.replicate, List.cons_append, List.nil_append, List.append_nil, xs_cons, xs_nil, x_ret, x_asg, x_par, x_unp, x_drop, x_cond, x_loop, x_wh, x_raise1, x_setL, x_setF, x_app, x_try, e_fld, e_meth, e_lstT, g_nm, g_nil, IG.len, e_non, e_bl, e_int, e_str, e_v, e_g, e_op, e_neg, e_cmp, e_chain, e_and, e_or, e_not, e_ife, e_tup, e_lstF, e_ix, e_sl, e_call, e_bi, e_lc, e_isT, e_inG, e_ixG, es_nil, es_cons, es_star, o_no, o_yes, t_yes, t_and, t_or, t_not, t_val, t_tru, i_seq, i_r1, i_r2, i_enum, getS0, getSs, ofO_s, bindOk, bindEx, thnOk, thnEx, sthnNx, sthnRt, sthnEx, noexOk, endK_rt, endK_nx, endK_ex, c_eq_i, c_ne_i, c_eq_s, c_ne_s, c_lt, c_le, c_gt, c_ge, c_isN, c_notN, o_add, o_sub, o_mul, o_mod, o_div, o_addL, o_addT, tru_bl, tru_i, e_callK, e_callV, e_dct, e_mk, x_par3, x_setD, x_raise0, bi_lenT, bi_lenL, bi_min, bi_min2, bi_max2, bi_abs, bi_int, bi_intb, bi_tupL, bi_tupT, bi_lstT, bi_lstL, sl_L, sl_T, isNon, Option.map, List.set, and_self, if_true, if_false, Bool.false_eq_true, Bool.not_true, Bool.not_false, List.length, List.length_cons, List.length_nil, eq_self, Nat.zero_add, Nat.reduceAdd, Nat.reduceLeDiff, Option.bind_some, Option.isSome_some, decide_true, decide_false, List.length_map, seqOf, f_signs_part_by, b_signs_part_by, g_primes, e1, hz, e2, d_odd, h]
theorem fsg_enum (p : Int) : ∀ (suf pre : List Int) (f : Int), (suf.zipIdx pre.length).foldl (fun f x => ((pre ++ suf).drop (x.2 + 1)).foldl (fun f u => f * hs x.1 u p) f) f = fsg p suf f
  | [], _, _ => rfl
  | w :: r, pre, f => by
    rw [List.zipIdx_cons, List.foldl_cons]
    have e1 : (pre ++ w :: r).drop (pre.length + 1) = r := by
      rw [show pre ++ w :: r = (pre ++ [w]) ++ r by simp, show pre.length + 1 = (pre ++ [w]).length by simp, List.drop_left]
    have e2 := fsg_enum p r (pre ++ [w]) (r.foldl (fun f u => f * hs w u p) f)
    rw [show (pre ++ [w]).length = pre.length + 1 by simp, show pre ++ [w] ++ r = pre ++ w :: r by simp] at e2
    show (r.zipIdx (pre.length + 1)).foldl _ (((pre ++ w :: r).drop (pre.length + 1)).foldl (fun f u => f * hs w u p) f) = fsg p r (r.foldl (fun f u => f * hs w u p) f)
    rw [e1, e2]
theorem d_formsign [H_signs_form_sign_by I L fs] (form : List Int) (p : Int) (k : Nat) (G : Hh) (hk : 4 ≤ k) (hf : Fm form) (hp : p = 0 ∨ 2 ≤ p) (hp2 : p ≤ 1000) : run L fs k I.signs_form_sign_by [iT form, .int p] G = .ok (.int (NF.fs form p)) G := by
  obtain ⟨k, rfl⟩ : ∃ m, k = m + 1 := ⟨k - 1, by omega⟩
  rw [run_at (A_signs_form_sign_by L) rfl k _ G rfl]
  obtain ⟨ρ', e1, y, z, v, rfl, hq⟩ := loop_fold (G := G) (fun (x : Int × Nat) => W.tup [.int ((x.2 : Nat) : Int), .int x.1]) (fun f ρ => ∃ (y z v : Option W), ρ = [some (iT form), some (.int p), some (.int f), y, z, v] ∧ (f = 1 ∨ f = -1)) (fun f x => (form.drop (x.2 + 1)).foldl (fun f u => f * hs x.1 u p) f) (xs := form.zipIdx)
    (step := forStep (.tp [3, 4]) (exSs L (run L fs k) (.cons (.loop (.nm 5) (.seq (.sl (.v 0) (.yes (.op .add (.v 3) (.int 1))) .no)) (.cons (.asg 2 (.op .mul (.v 2) (.call I.signs_sign_by (.cons (.v 4) (.cons (.v 5) (.cons (.v 1) .nil))) []))) .nil)) .nil)))
    (s := 1) (ρ := [some (iT form), some (.int p), some (.int 1), none, none, none]) (fun x hx f ρ ⟨y, z, v, e, hq⟩ => by
      subst e
      obtain ⟨w, i⟩ := x
      have hw : w ∈ form := by
        have := List.mem_zipIdx hx
        simp at this
        obtain ⟨_, h⟩ := this
        rw [h]
        exact List.getElem_mem _
      obtain ⟨w1, w2⟩ := hf.1 w hw
      obtain ⟨ρ2, e2, v2, rfl, hq2⟩ := loop_fold (G := G) W.int (fun f ρ => ∃ (v : Option W), ρ = [some (iT form), some (.int p), some (.int f), some (.int ((i : Nat) : Int)), some (.int w), v] ∧ (f = 1 ∨ f = -1)) (fun f u => f * hs w u p) (xs := form.drop (i + 1))
        (step := forStep (.nm 5) (exSs L (run L fs k) (.cons (.asg 2 (.op .mul (.v 2) (.call I.signs_sign_by (.cons (.v 4) (.cons (.v 5) (.cons (.v 1) .nil))) []))) .nil)))
        (s := f) (ρ := [some (iT form), some (.int p), some (.int f), some (.int ((i : Nat) : Int)), some (.int w), v]) (fun u hu f ρ ⟨v, e, hq⟩ => by
          subst e
          obtain ⟨u1, u2⟩ := hf.1 u (List.mem_of_mem_drop hu)
          refine ⟨[some (iT form), some (.int p), some (.int (f * hs w u p)), some (.int ((i : Nat) : Int)), some (.int w), some (.int u)], ?_, _, rfl, pm_mul hq (hs_pm w u p)⟩
          simp (disch := first | assumption | omega) only [List.map, List.map_cons, List.map_nil, Nat.reduceSub, List.replicate, List.cons_append, List.nil_append, List.append_nil, xs_cons, xs_nil, x_ret, x_asg, x_par, x_unp, x_drop, x_cond, x_loop, x_wh, x_raise1, x_setL, x_setF, x_app, x_try, e_fld, e_meth, e_lstT, g_nm, g_nil, IG.len, e_non, e_bl, e_int, e_str, e_v, e_g, e_op, e_neg, e_cmp, e_chain, e_and, e_or, e_not, e_ife, e_tup, e_lstF, e_ix, e_sl, e_call, e_bi, e_lc, e_isT, e_inG, e_ixG, es_nil, es_cons, es_star, o_no, o_yes, t_yes, t_and, t_or, t_not, t_val, t_tru, i_seq, i_r1, i_r2, i_enum, getS0, getSs, ofO_s, bindOk, bindEx, thnOk, thnEx, sthnNx, sthnRt, sthnEx, noexOk, endK_rt, endK_nx, endK_ex, c_eq_i, c_ne_i, c_eq_s, c_ne_s, c_lt, c_le, c_gt, c_ge, c_isN, c_notN, o_add, o_sub, o_mul, o_mod, o_div, o_addL, o_addT, tru_bl, tru_i, e_callK, e_callV, e_dct, e_mk, x_par3, x_setD, x_raise0, bi_lenT, bi_lenL, bi_min, bi_min2, bi_max2, bi_abs, bi_int, bi_intb, bi_tupL, bi_tupT, bi_lstT, bi_lstL, sl_L, sl_T, isNon, Option.map, List.set, and_self, if_true, if_false, Bool.false_eq_true, Bool.not_true, Bool.not_false, List.length, List.length_cons, List.length_nil, eq_self, Nat.zero_add, Nat.reduceAdd, Nat.reduceLeDiff, Option.bind_some, Option.isSome_some, decide_true, decide_false, List.length_map, seqOf, forStep, bindTg, d_sign]) ⟨v, rfl, hq⟩
      refine ⟨[some (iT form), some (.int p), some (.int ((form.drop (i + 1)).foldl (fun f u => f * hs w u p) f)), some (.int ((i : Nat) : Int)), some (.int w), v2], ?_, _, _, _, rfl, hq2⟩
      simp (disch := first | assumption | omega) only [List.map, List.map_cons, List.map_nil, Nat.reduceSub, List.replicate, List.cons_append, List.nil_append, List.append_nil, xs_cons, xs_nil, x_ret, x_asg, x_par, x_unp, x_drop, x_cond, x_loop, x_wh, x_raise1, x_setL, x_setF, x_app, x_try, e_fld, e_meth, e_lstT, g_nm, g_nil, IG.len, e_non, e_bl, e_int, e_str, e_v, e_g, e_op, e_neg, e_cmp, e_chain, e_and, e_or, e_not, e_ife, e_tup, e_lstF, e_ix, e_sl, e_call, e_bi, e_lc, e_isT, e_inG, e_ixG, es_nil, es_cons, es_star, o_no, o_yes, t_yes, t_and, t_or, t_not, t_val, t_tru, i_seq, i_r1, i_r2, i_enum, getS0, getSs, ofO_s, bindOk, bindEx, thnOk, thnEx, sthnNx, sthnRt, sthnEx, noexOk, endK_rt, endK_nx, endK_ex, c_eq_i, c_ne_i, c_eq_s, c_ne_s, c_lt, c_le, c_gt, c_ge, c_isN, c_notN, o_add, o_sub, o_mul, o_mod, o_div, o_addL, o_addT, tru_bl, tru_i, e_callK, e_callV, e_dct, e_mk, x_par3, x_setD, x_raise0, bi_lenT, bi_lenL, bi_min, bi_min2, bi_max2, bi_abs, bi_int, bi_intb, bi_tupL, bi_tupT, bi_lstT, bi_lstL, sl_L, sl_T, isNon, Option.map, List.set, and_self, if_true, if_false, Bool.false_eq_true, Bool.not_true, Bool.not_false, List.length, List.length_cons, List.length_nil, eq_self, Nat.zero_add, Nat.reduceAdd, Nat.reduceLeDiff, Option.bind_some, Option.isSome_some, decide_true, decide_false, List.length_map, seqOf, forStep, bindTg, setMany, cut_hi1, ← List.map_drop, e2]) ⟨none, none, none, rfl, .inl rfl⟩
  have e3 := fsg_enum p form [] 1
  simp only [List.length_nil, List.nil_append] at e3
  rw [e3] at e1 hq
  simp (disch := first | assumption | omega) only [List.map, List.map_cons, List.map_nil, Nat.reduceSub, List.replicate, List.cons_append, List.nil_append, List.append_nil, xs_cons, xs_nil, x_ret, x_asg, x_par, x_unp, x_drop, x_cond, x_loop, x_wh, x_raise1, x_setL, x_setF, x_app, x_try, e_fld, e_meth, e_lstT, g_nm, g_nil, IG.len, e_non, e_bl, e_int, e_str, e_v, e_g, e_op, e_neg, e_cmp, e_chain, e_and, e_or, e_not, e_ife, e_tup, e_lstF, e_ix, e_sl, e_call, e_bi, e_lc, e_isT, e_inG, e_ixG, es_nil, es_cons, es_star, o_no, o_yes, t_yes, t_and, t_or, t_not, t_val, t_tru, i_seq, i_r1, i_r2, i_enum, getS0, getSs, ofO_s, bindOk, bindEx, thnOk, thnEx, sthnNx, sthnRt, sthnEx, noexOk, endK_rt, endK_nx, endK_ex, c_eq_i, c_ne_i, c_eq_s, c_ne_s, c_lt, c_le, c_gt, c_ge, c_isN, c_notN, o_add, o_sub, o_mul, o_mod, o_div, o_addL, o_addT, tru_bl, tru_i, e_callK, e_callV, e_dct, e_mk, x_par3, x_setD, x_raise0, bi_lenT, bi_lenL, bi_min, bi_min2, bi_max2, bi_abs, bi_int, bi_intb, bi_tupL, bi_tupT, bi_lstT, bi_lstL, sl_L, sl_T, isNon, Option.map, List.set, and_self, if_true, if_false, Bool.false_eq_true, Bool.not_true, Bool.not_false, List.length, List.length_cons, List.length_nil, eq_self, Nat.zero_add, Nat.reduceAdd, Nat.reduceLeDiff, Option.bind_some, Option.isSome_some, decide_true, decide_false, List.length_map, seqOf, f_signs_form_sign_by, b_signs_form_sign_by, enum_map, e1, NF.fs]
theorem d_places [H_signs_places_by I L fs] (form : List Int) (k : Nat) (G : Hh) (hk : 1 ≤ k) (hl : form.length ≤ 1000) : run L fs k I.signs_places_by [iT form] G = .ok (iT (0 :: plc form)) G := by
  obtain ⟨k, rfl⟩ : ∃ m, k = m + 1 := ⟨k - 1, by omega⟩
  rw [run_at (A_signs_places_by L) rfl k _ G rfl]
  have hz : form.length ≤ 1000000 := by omega
  have e := lc_filt (G := G) (xs := prs) W.int (fun p => p == 2 || (form.map fun w => w % p == 0).any id) (step := lcStep [1] (.nm 1) (evT L (run L fs k) (.or (.val (.cmp .eq (.v 1) (.int 2))) (.tru (.bi .any (.cons (.lc [2] (.nm 2) (.seq (.v 0)) .yes (.cmp .eq (.op .mod (.v 2) (.v 1)) (.int 0))) .nil))))) (evE L (run L fs k) (.v 1)) [some (iT form), none, none, none]) (fun p hp => by
    have hpb := prs_bd p hp
    have e := lc_map (G := G) (xs := form) W.int (fun w => w % p == 0) W.bl (step := lcStep [2] (.nm 2) (evT L (run L fs k) .yes) (evE L (run L fs k) (.cmp .eq (.op .mod (.v 2) (.v 1)) (.int 0))) [some (iT form), some (.int p), none, none]) (fun w _ => by
      simp (disch := first | assumption | omega) only [List.map, List.map_cons, List.map_nil, Nat.reduceSub, List.replicate, List.cons_append, List.nil_append, List.append_nil, xs_cons, xs_nil, x_ret, x_asg, x_par, x_unp, x_drop, x_cond, x_loop, x_wh, x_raise1, x_setL, x_setF, x_app, x_try, e_fld, e_meth, e_lstT, g_nm, g_nil, IG.len, e_non, e_bl, e_int, e_str, e_v, e_g, e_op, e_neg, e_cmp, e_chain, e_and, e_or, e_not, e_ife, e_tup, e_lstF, e_ix, e_sl, e_call, e_bi, e_lc, e_isT, e_inG, e_ixG, es_nil, es_cons, es_star, o_no, o_yes, t_yes, t_and, t_or, t_not, t_val, t_tru, i_seq, i_r1, i_r2, i_enum, getS0, getSs, ofO_s, bindOk, bindEx, thnOk, thnEx, sthnNx, sthnRt, sthnEx, noexOk, endK_rt, endK_nx, endK_ex, c_eq_i, c_ne_i, c_eq_s, c_ne_s, c_lt, c_le, c_gt, c_ge, c_isN, c_notN, o_add, o_sub, o_mul, o_mod, o_div, o_addL, o_addT, tru_bl, tru_i, e_callK, e_callV, e_dct, e_mk, x_par3, x_setD, x_raise0, bi_lenT, bi_lenL, bi_min, bi_min2, bi_max2, bi_abs, bi_int, bi_intb, bi_tupL, bi_tupT, bi_lstT, bi_lstL, sl_L, sl_T, isNon, Option.map, List.set, and_self, if_true, if_false, Bool.false_eq_true, Bool.not_true, Bool.not_false, List.length, List.length_cons, List.length_nil, eq_self, Nat.zero_add, Nat.reduceAdd, Nat.reduceLeDiff, Option.bind_some, Option.isSome_some, decide_true, decide_false, List.length_map, seqOf, lcStep, bindTg, wipeR])
    cases h : (p == 2) <;> cases h2 : (form.map fun w => w % p == 0).any id <;> simp (disch := first | assumption | omega) only [List.map, List.map_cons, List.map_nil, Nat.reduceSub, List.replicate, List.cons_append, List.nil_append, List.append_nil, xs_cons, xs_nil, x_ret, x_asg, x_par, x_unp, x_drop, x_cond, x_loop, x_wh, x_raise1, x_setL, x_setF, x_app, x_try, e_fld, e_meth, e_lstT, g_nm, g_nil, IG.len, e_non, e_bl, e_int, e_str, e_v, e_g, e_op, e_neg, e_cmp, e_chain, e_and, e_or, e_not, e_ife, e_tup, e_lstF, e_ix, e_sl, e_call, e_bi, e_lc, e_isT, e_inG, e_ixG, es_nil, es_cons, es_star, o_no, o_yes, t_yes, t_and, t_or, t_not, t_val, t_tru, i_seq, i_r1, i_r2, i_enum, getS0, getSs, ofO_s, bindOk, bindEx, thnOk, thnEx, sthnNx, sthnRt, sthnEx, noexOk, endK_rt, endK_nx, endK_ex, c_eq_i, c_ne_i, c_eq_s, c_ne_s, c_lt, c_le, c_gt, c_ge, c_isN, c_notN, o_add, o_sub, o_mul, o_mod, o_div, o_addL, o_addT, tru_bl, tru_i, e_callK, e_callV, e_dct, e_mk, x_par3, x_setD, x_raise0, bi_lenT, bi_lenL, bi_min, bi_min2, bi_max2, bi_abs, bi_int, bi_intb, bi_tupL, bi_tupT, bi_lstT, bi_lstL, sl_L, sl_T, isNon, Option.map, List.set, and_self, if_true, if_false, Bool.false_eq_true, Bool.not_true, Bool.not_false, List.length, List.length_cons, List.length_nil, eq_self, Nat.zero_add, Nat.reduceAdd, Nat.reduceLeDiff, Option.bind_some, Option.isSome_some, decide_true, decide_false, List.length_map, seqOf, lcStep, bindTg, wipeR, h, hz, e, bi_any, h2, Bool.or_true, Bool.or_false, Bool.true_or, Bool.false_or])
  change _ = R.ok ((plc form).map W.int) G at e
  have hp : prs.length ≤ 1000000 := by decide
  have hy : (plc form).length + 1 ≤ 1000000 := by
    have : (plc form).length ≤ prs.length := List.length_filter_le _ _
    have : prs.length = 25 := by decide
    omega
  simp (disch := first | assumption | omega) only [List.map, List.map_cons, List.map_nil, Nat.reduceSub, List.replicate, List.cons_append, List.nil_append, List.append_nil, xs_cons, xs_nil, x_ret, x_asg, x_par, x_unp, x_drop, x_cond, x_loop, x_wh, x_raise1, x_setL, x_setF, x_app, x_try, e_fld, e_meth, e_lstT, g_nm, g_nil, IG.len, e_non, e_bl, e_int, e_str, e_v, e_g, e_op, e_neg, e_cmp, e_chain, e_and, e_or, e_not, e_ife, e_tup, e_lstF, e_ix, e_sl, e_call, e_bi, e_lc, e_isT, e_inG, e_ixG, es_nil, es_cons, es_star, o_no, o_yes, t_yes, t_and, t_or, t_not, t_val, t_tru, i_seq, i_r1, i_r2, i_enum, getS0, getSs, ofO_s, bindOk, bindEx, thnOk, thnEx, sthnNx, sthnRt, sthnEx, noexOk, endK_rt, endK_nx, endK_ex, c_eq_i, c_ne_i, c_eq_s, c_ne_s, c_lt, c_le, c_gt, c_ge, c_isN, c_notN, o_add, o_sub, o_mul, o_mod, o_div, o_addL, o_addT, tru_bl, tru_i, e_callK, e_callV, e_dct, e_mk, x_par3, x_setD, x_raise0, bi_lenT, bi_lenL, bi_min, bi_min2, bi_max2, bi_abs, bi_int, bi_intb, bi_tupL, bi_tupT, bi_lstT, bi_lstL, sl_L, sl_T, isNon, Option.map, List.set, and_self, if_true, if_false, Bool.false_eq_true, Bool.not_true, Bool.not_false, List.length, List.length_cons, List.length_nil, eq_self, Nat.zero_add, Nat.reduceAdd, Nat.reduceLeDiff, Option.bind_some, Option.isSome_some, decide_true, decide_false, List.length_map, seqOf, f_signs_places_by, b_signs_places_by, g_primes, hp, e, hy]
  rfl
end
end PI
end

section
set_option autoImplicit false
set_option maxHeartbeats 2000000
/-! S3: the defs of noughts. -/
namespace PI
open PySem (Str PyData)
open NF
def FmP (form : List Int) : Prop := Fm form ∧ (part form).natAbs < 18446744073709551616
section
variable {I : Ix} {L : Lib} {fs : List Fn}
theorem d_gives [H_noughts_gives_with I L fs] (form : List Int) (d p : Int) (k : Nat) (G : Hh) (hk : 5 ≤ k) (hf : Fm form) (hd : d ≠ 0) (hd2 : d.natAbs < 18446744073709551616) (hp : p = 0 ∨ 2 ≤ p) (hp2 : p ≤ 1000) :
    run L fs k I.noughts_gives_with [iT form, .int d, .int p] G = .ok (.bl (givesW form d p)) G := by
  obtain ⟨k, rfl⟩ : ∃ m, k = m + 1 := ⟨k - 1, by omega⟩
  rw [run_at (A_noughts_gives_with L) rfl k _ G rfl]
  have hl := hf.2
  have l1 : (form.map W.int).length = form.length := List.length_map ..
  unfold givesW
  cases h0 : (p == 0)
  · cases h1 : (decide (((form.length : Nat) : Int) < 2))
    · cases h2 : (decide (4 < ((form.length : Nat) : Int)))
      · cases h3 : (((form.length : Nat) : Int) == 2)
        · cases h4 : (((form.length : Nat) : Int) == 3)
          · cases h5 : isq d p <;> simp (disch := first | assumption | omega) only [List.map, List.map_cons, List.map_nil, Nat.reduceSub, List.replicate, List.cons_append, List.nil_append, List.append_nil, xs_cons, xs_nil, x_ret, x_asg, x_par, x_unp, x_drop, x_cond, x_loop, x_wh, x_raise1, x_setL, x_setF, x_app, x_try, e_fld, e_meth, e_lstT, g_nm, g_nil, IG.len, e_non, e_bl, e_int, e_str, e_v, e_g, e_op, e_neg, e_cmp, e_chain, e_and, e_or, e_not, e_ife, e_tup, e_lstF, e_ix, e_sl, e_call, e_bi, e_lc, e_isT, e_inG, e_ixG, es_nil, es_cons, es_star, o_no, o_yes, t_yes, t_and, t_or, t_not, t_val, t_tru, i_seq, i_r1, i_r2, i_enum, getS0, getSs, ofO_s, bindOk, bindEx, thnOk, thnEx, sthnNx, sthnRt, sthnEx, noexOk, endK_rt, endK_nx, endK_ex, c_eq_i, c_ne_i, c_eq_s, c_ne_s, c_lt, c_le, c_gt, c_ge, c_isN, c_notN, o_add, o_sub, o_mul, o_mod, o_div, o_addL, o_addT, tru_bl, tru_i, e_callK, e_callV, e_dct, e_mk, x_par3, x_setD, x_raise0, bi_lenT, bi_lenL, bi_min, bi_min2, bi_max2, bi_abs, bi_int, bi_intb, bi_tupL, bi_tupT, bi_lstT, bi_lstL, sl_L, sl_T, isNon, Option.map, List.set, and_self, if_true, if_false, Bool.false_eq_true, Bool.not_true, Bool.not_false, List.length, List.length_cons, List.length_nil, eq_self, Nat.zero_add, Nat.reduceAdd, Nat.reduceLeDiff, Option.bind_some, Option.isSome_some, decide_true, decide_false, List.length_map, seqOf, f_noughts_gives_with, b_noughts_gives_with, h0, h1, h2, h3, h4, h5, Bool.or_self, d_square, d_formsign, d_sign]
          · simp (disch := first | assumption | omega) only [List.map, List.map_cons, List.map_nil, Nat.reduceSub, List.replicate, List.cons_append, List.nil_append, List.append_nil, xs_cons, xs_nil, x_ret, x_asg, x_par, x_unp, x_drop, x_cond, x_loop, x_wh, x_raise1, x_setL, x_setF, x_app, x_try, e_fld, e_meth, e_lstT, g_nm, g_nil, IG.len, e_non, e_bl, e_int, e_str, e_v, e_g, e_op, e_neg, e_cmp, e_chain, e_and, e_or, e_not, e_ife, e_tup, e_lstF, e_ix, e_sl, e_call, e_bi, e_lc, e_isT, e_inG, e_ixG, es_nil, es_cons, es_star, o_no, o_yes, t_yes, t_and, t_or, t_not, t_val, t_tru, i_seq, i_r1, i_r2, i_enum, getS0, getSs, ofO_s, bindOk, bindEx, thnOk, thnEx, sthnNx, sthnRt, sthnEx, noexOk, endK_rt, endK_nx, endK_ex, c_eq_i, c_ne_i, c_eq_s, c_ne_s, c_lt, c_le, c_gt, c_ge, c_isN, c_notN, o_add, o_sub, o_mul, o_mod, o_div, o_addL, o_addT, tru_bl, tru_i, e_callK, e_callV, e_dct, e_mk, x_par3, x_setD, x_raise0, bi_lenT, bi_lenL, bi_min, bi_min2, bi_max2, bi_abs, bi_int, bi_intb, bi_tupL, bi_tupT, bi_lstT, bi_lstL, sl_L, sl_T, isNon, Option.map, List.set, and_self, if_true, if_false, Bool.false_eq_true, Bool.not_true, Bool.not_false, List.length, List.length_cons, List.length_nil, eq_self, Nat.zero_add, Nat.reduceAdd, Nat.reduceLeDiff, Option.bind_some, Option.isSome_some, decide_true, decide_false, List.length_map, seqOf, f_noughts_gives_with, b_noughts_gives_with, h0, h1, h2, h3, h4, Bool.or_self, d_square, d_formsign, d_sign]
        · simp (disch := first | assumption | omega) only [List.map, List.map_cons, List.map_nil, Nat.reduceSub, List.replicate, List.cons_append, List.nil_append, List.append_nil, xs_cons, xs_nil, x_ret, x_asg, x_par, x_unp, x_drop, x_cond, x_loop, x_wh, x_raise1, x_setL, x_setF, x_app, x_try, e_fld, e_meth, e_lstT, g_nm, g_nil, IG.len, e_non, e_bl, e_int, e_str, e_v, e_g, e_op, e_neg, e_cmp, e_chain, e_and, e_or, e_not, e_ife, e_tup, e_lstF, e_ix, e_sl, e_call, e_bi, e_lc, e_isT, e_inG, e_ixG, es_nil, es_cons, es_star, o_no, o_yes, t_yes, t_and, t_or, t_not, t_val, t_tru, i_seq, i_r1, i_r2, i_enum, getS0, getSs, ofO_s, bindOk, bindEx, thnOk, thnEx, sthnNx, sthnRt, sthnEx, noexOk, endK_rt, endK_nx, endK_ex, c_eq_i, c_ne_i, c_eq_s, c_ne_s, c_lt, c_le, c_gt, c_ge, c_isN, c_notN, o_add, o_sub, o_mul, o_mod, o_div, o_addL, o_addT, tru_bl, tru_i, e_callK, e_callV, e_dct, e_mk, x_par3, x_setD, x_raise0, bi_lenT, bi_lenL, bi_min, bi_min2, bi_max2, bi_abs, bi_int, bi_intb, bi_tupL, bi_tupT, bi_lstT, bi_lstL, sl_L, sl_T, isNon, Option.map, List.set, and_self, if_true, if_false, Bool.false_eq_true, Bool.not_true, Bool.not_false, List.length, List.length_cons, List.length_nil, eq_self, Nat.zero_add, Nat.reduceAdd, Nat.reduceLeDiff, Option.bind_some, Option.isSome_some, decide_true, decide_false, List.length_map, seqOf, f_noughts_gives_with, b_noughts_gives_with, h0, h1, h2, h3, Bool.or_self, d_square]
      · simp (disch := first | assumption | omega) only [List.map, List.map_cons, List.map_nil, Nat.reduceSub, List.replicate, List.cons_append, List.nil_append, List.append_nil, xs_cons, xs_nil, x_ret, x_asg, x_par, x_unp, x_drop, x_cond, x_loop, x_wh, x_raise1, x_setL, x_setF, x_app, x_try, e_fld, e_meth, e_lstT, g_nm, g_nil, IG.len, e_non, e_bl, e_int, e_str, e_v, e_g, e_op, e_neg, e_cmp, e_chain, e_and, e_or, e_not, e_ife, e_tup, e_lstF, e_ix, e_sl, e_call, e_bi, e_lc, e_isT, e_inG, e_ixG, es_nil, es_cons, es_star, o_no, o_yes, t_yes, t_and, t_or, t_not, t_val, t_tru, i_seq, i_r1, i_r2, i_enum, getS0, getSs, ofO_s, bindOk, bindEx, thnOk, thnEx, sthnNx, sthnRt, sthnEx, noexOk, endK_rt, endK_nx, endK_ex, c_eq_i, c_ne_i, c_eq_s, c_ne_s, c_lt, c_le, c_gt, c_ge, c_isN, c_notN, o_add, o_sub, o_mul, o_mod, o_div, o_addL, o_addT, tru_bl, tru_i, e_callK, e_callV, e_dct, e_mk, x_par3, x_setD, x_raise0, bi_lenT, bi_lenL, bi_min, bi_min2, bi_max2, bi_abs, bi_int, bi_intb, bi_tupL, bi_tupT, bi_lstT, bi_lstL, sl_L, sl_T, isNon, Option.map, List.set, and_self, if_true, if_false, Bool.false_eq_true, Bool.not_true, Bool.not_false, List.length, List.length_cons, List.length_nil, eq_self, Nat.zero_add, Nat.reduceAdd, Nat.reduceLeDiff, Option.bind_some, Option.isSome_some, decide_true, decide_false, List.length_map, seqOf, f_noughts_gives_with, b_noughts_gives_with, h0, h1, h2, Bool.or_true]
    · simp (disch := first | assumption | omega) only [List.map, List.map_cons, List.map_nil, Nat.reduceSub, List.replicate, List.cons_append, List.nil_append, List.append_nil, xs_cons, xs_nil, x_ret, x_asg, x_par, x_unp, x_drop, x_cond, x_loop, x_wh, x_raise1, x_setL, x_setF, x_app, x_try, e_fld, e_meth, e_lstT, g_nm, g_nil, IG.len, e_non, e_bl, e_int, e_str, e_v, e_g, e_op, e_neg, e_cmp, e_chain, e_and, e_or, e_not, e_ife, e_tup, e_lstF, e_ix, e_sl, e_call, e_bi, e_lc, e_isT, e_inG, e_ixG, es_nil, es_cons, es_star, o_no, o_yes, t_yes, t_and, t_or, t_not, t_val, t_tru, i_seq, i_r1, i_r2, i_enum, getS0, getSs, ofO_s, bindOk, bindEx, thnOk, thnEx, sthnNx, sthnRt, sthnEx, noexOk, endK_rt, endK_nx, endK_ex, c_eq_i, c_ne_i, c_eq_s, c_ne_s, c_lt, c_le, c_gt, c_ge, c_isN, c_notN, o_add, o_sub, o_mul, o_mod, o_div, o_addL, o_addT, tru_bl, tru_i, e_callK, e_callV, e_dct, e_mk, x_par3, x_setD, x_raise0, bi_lenT, bi_lenL, bi_min, bi_min2, bi_max2, bi_abs, bi_int, bi_intb, bi_tupL, bi_tupT, bi_lstT, bi_lstL, sl_L, sl_T, isNon, Option.map, List.set, and_self, if_true, if_false, Bool.false_eq_true, Bool.not_true, Bool.not_false, List.length, List.length_cons, List.length_nil, eq_self, Nat.zero_add, Nat.reduceAdd, Nat.reduceLeDiff, Option.bind_some, Option.isSome_some, decide_true, decide_false, List.length_map, seqOf, f_noughts_gives_with, b_noughts_gives_with, h0, h1, Bool.true_or]
  · simp (disch := first | assumption | omega) only [List.map, List.map_cons, List.map_nil, Nat.reduceSub, List.replicate, List.cons_append, List.nil_append, List.append_nil, xs_cons, xs_nil, x_ret, x_asg, x_par, x_unp, x_drop, x_cond, x_loop, x_wh, x_raise1, x_setL, x_setF, x_app, x_try, e_fld, e_meth, e_lstT, g_nm, g_nil, IG.len, e_non, e_bl, e_int, e_str, e_v, e_g, e_op, e_neg, e_cmp, e_chain, e_and, e_or, e_not, e_ife, e_tup, e_lstF, e_ix, e_sl, e_call, e_bi, e_lc, e_isT, e_inG, e_ixG, es_nil, es_cons, es_star, o_no, o_yes, t_yes, t_and, t_or, t_not, t_val, t_tru, i_seq, i_r1, i_r2, i_enum, getS0, getSs, ofO_s, bindOk, bindEx, thnOk, thnEx, sthnNx, sthnRt, sthnEx, noexOk, endK_rt, endK_nx, endK_ex, c_eq_i, c_ne_i, c_eq_s, c_ne_s, c_lt, c_le, c_gt, c_ge, c_isN, c_notN, o_add, o_sub, o_mul, o_mod, o_div, o_addL, o_addT, tru_bl, tru_i, e_callK, e_callV, e_dct, e_mk, x_par3, x_setD, x_raise0, bi_lenT, bi_lenL, bi_min, bi_min2, bi_max2, bi_abs, bi_int, bi_intb, bi_tupL, bi_tupT, bi_lstT, bi_lstL, sl_L, sl_T, isNon, Option.map, List.set, and_self, if_true, if_false, Bool.false_eq_true, Bool.not_true, Bool.not_false, List.length, List.length_cons, List.length_nil, eq_self, Nat.zero_add, Nat.reduceAdd, Nat.reduceLeDiff, Option.bind_some, Option.isSome_some, decide_true, decide_false, List.length_map, seqOf, f_noughts_gives_with, b_noughts_gives_with, h0, d_size, least]
    rfl
theorem d_look [H_noughts_looked_at I L fs] (form : List Int) (k : Nat) (G : Hh) (hk : 2 ≤ k) (hl : form.length ≤ 1000) : run L fs k I.noughts_looked_at [iT form] G = .ok (iT (look form)) G := by
  obtain ⟨k, rfl⟩ : ∃ m, k = m + 1 := ⟨k - 1, by omega⟩
  rw [run_at (A_noughts_looked_at L) rfl k _ G rfl]
  unfold look
  cases h : (((form.length : Nat) : Int) == 2) <;> simp (disch := first | assumption | omega) only [List.map, List.map_cons, List.map_nil, Nat.reduceSub, List.replicate, List.cons_append, List.nil_append, List.append_nil, xs_cons, xs_nil, x_ret, x_asg, x_par, x_unp, x_drop, x_cond, x_loop, x_wh, x_raise1, x_setL, x_setF, x_app, x_try, e_fld, e_meth, e_lstT, g_nm, g_nil, IG.len, e_non, e_bl, e_int, e_str, e_v, e_g, e_op, e_neg, e_cmp, e_chain, e_and, e_or, e_not, e_ife, e_tup, e_lstF, e_ix, e_sl, e_call, e_bi, e_lc, e_isT, e_inG, e_ixG, es_nil, es_cons, es_star, o_no, o_yes, t_yes, t_and, t_or, t_not, t_val, t_tru, i_seq, i_r1, i_r2, i_enum, getS0, getSs, ofO_s, bindOk, bindEx, thnOk, thnEx, sthnNx, sthnRt, sthnEx, noexOk, endK_rt, endK_nx, endK_ex, c_eq_i, c_ne_i, c_eq_s, c_ne_s, c_lt, c_le, c_gt, c_ge, c_isN, c_notN, o_add, o_sub, o_mul, o_mod, o_div, o_addL, o_addT, tru_bl, tru_i, e_callK, e_callV, e_dct, e_mk, x_par3, x_setD, x_raise0, bi_lenT, bi_lenL, bi_min, bi_min2, bi_max2, bi_abs, bi_int, bi_intb, bi_tupL, bi_tupT, bi_lstT, bi_lstL, sl_L, sl_T, isNon, Option.map, List.set, and_self, if_true, if_false, Bool.false_eq_true, Bool.not_true, Bool.not_false, List.length, List.length_cons, List.length_nil, eq_self, Nat.zero_add, Nat.reduceAdd, Nat.reduceLeDiff, Option.bind_some, Option.isSome_some, decide_true, decide_false, List.length_map, seqOf, f_noughts_looked_at, b_noughts_looked_at, h, g_places, d_places]
  rfl
theorem look_len (form : List Int) : (look form).length ≤ 26 := by
  unfold look
  have h25 : prs.length = 25 := by decide
  have : (plc form).length ≤ prs.length := List.length_filter_le _ _
  split <;> rw [List.length_cons] <;> omega
theorem d_bars [H_noughts_bars_by I L fs] (form : List Int) (k : Nat) (G : Hh) (hk : 6 ≤ k) (hf : FmP form) : run L fs k I.noughts_bars_by [iT form] G = .ok (iT (bars form)) G := by
  obtain ⟨k, rfl⟩ : ∃ m, k = m + 1 := ⟨k - 1, by omega⟩
  rw [run_at (A_noughts_bars_by L) rfl k _ G rfl]
  obtain ⟨hf, hq⟩ := hf
  have hl := hf.2
  have hn := part_ne form
  have hz : (look form).length ≤ 1000000 := by have := look_len form; omega
  have e := lc_filt (G := G) (xs := look form) W.int (fun p => !givesW form (part form) p) (step := lcStep [2] (.nm 2) (evT L (run L fs k) (.not (.tru (.call I.noughts_gives_with (.cons (.v 0) (.cons (.v 1) (.cons (.v 2) .nil))) [])))) (evE L (run L fs k) (.v 2)) [some (iT form), some (.int (part form)), none]) (fun p hp => by
    obtain ⟨p1, p2⟩ := zprs_bd p (look_in hp)
    cases h : givesW form (part form) p <;> simp (disch := first | assumption | omega) only [List.map, List.map_cons, List.map_nil, Nat.reduceSub, List.replicate, List.cons_append, List.nil_append, List.append_nil, xs_cons, xs_nil, x_ret, x_asg, x_par, x_unp, x_drop, x_cond, x_loop, x_wh, x_raise1, x_setL, x_setF, x_app, x_try, e_fld, e_meth, e_lstT, g_nm, g_nil, IG.len, e_non, e_bl, e_int, e_str, e_v, e_g, e_op, e_neg, e_cmp, e_chain, e_and, e_or, e_not, e_ife, e_tup, e_lstF, e_ix, e_sl, e_call, e_bi, e_lc, e_isT, e_inG, e_ixG, es_nil, es_cons, es_star, o_no, o_yes, t_yes, t_and, t_or, t_not, t_val, t_tru, i_seq, i_r1, i_r2, i_enum, getS0, getSs, ofO_s, bindOk, bindEx, thnOk, thnEx, sthnNx, sthnRt, sthnEx, noexOk, endK_rt, endK_nx, endK_ex, c_eq_i, c_ne_i, c_eq_s, c_ne_s, c_lt, c_le, c_gt, c_ge, c_isN, c_notN, o_add, o_sub, o_mul, o_mod, o_div, o_addL, o_addT, tru_bl, tru_i, e_callK, e_callV, e_dct, e_mk, x_par3, x_setD, x_raise0, bi_lenT, bi_lenL, bi_min, bi_min2, bi_max2, bi_abs, bi_int, bi_intb, bi_tupL, bi_tupT, bi_lstT, bi_lstL, sl_L, sl_T, isNon, Option.map, List.set, and_self, if_true, if_false, Bool.false_eq_true, Bool.not_true, Bool.not_false, List.length, List.length_cons, List.length_nil, eq_self, Nat.zero_add, Nat.reduceAdd, Nat.reduceLeDiff, Option.bind_some, Option.isSome_some, decide_true, decide_false, List.length_map, seqOf, lcStep, bindTg, wipeR, d_gives, h])
  unfold bars
  cases h : (((form.length : Nat) : Int) == 1) <;> simp (disch := first | assumption | omega) only [List.map, List.map_cons, List.map_nil, Nat.reduceSub, List.replicate, List.cons_append, List.nil_append, List.append_nil, xs_cons, xs_nil, x_ret, x_asg, x_par, x_unp, x_drop, x_cond, x_loop, x_wh, x_raise1, x_setL, x_setF, x_app, x_try, e_fld, e_meth, e_lstT, g_nm, g_nil, IG.len, e_non, e_bl, e_int, e_str, e_v, e_g, e_op, e_neg, e_cmp, e_chain, e_and, e_or, e_not, e_ife, e_tup, e_lstF, e_ix, e_sl, e_call, e_bi, e_lc, e_isT, e_inG, e_ixG, es_nil, es_cons, es_star, o_no, o_yes, t_yes, t_and, t_or, t_not, t_val, t_tru, i_seq, i_r1, i_r2, i_enum, getS0, getSs, ofO_s, bindOk, bindEx, thnOk, thnEx, sthnNx, sthnRt, sthnEx, noexOk, endK_rt, endK_nx, endK_ex, c_eq_i, c_ne_i, c_eq_s, c_ne_s, c_lt, c_le, c_gt, c_ge, c_isN, c_notN, o_add, o_sub, o_mul, o_mod, o_div, o_addL, o_addT, tru_bl, tru_i, e_callK, e_callV, e_dct, e_mk, x_par3, x_setD, x_raise0, bi_lenT, bi_lenL, bi_min, bi_min2, bi_max2, bi_abs, bi_int, bi_intb, bi_tupL, bi_tupT, bi_lstT, bi_lstL, sl_L, sl_T, isNon, Option.map, List.set, and_self, if_true, if_false, Bool.false_eq_true, Bool.not_true, Bool.not_false, List.length, List.length_cons, List.length_nil, eq_self, Nat.zero_add, Nat.reduceAdd, Nat.reduceLeDiff, Option.bind_some, Option.isSome_some, decide_true, decide_false, List.length_map, seqOf, f_noughts_bars_by, b_noughts_bars_by, h, d_part, d_look, hz, e]
  rfl
theorem d_nought [H_noughts_gives_nought_by I L fs] (form : List Int) (k : Nat) (G : Hh) (hk : 6 ≤ k) (hf : FmP form) : run L fs k I.noughts_gives_nought_by [iT form] G = .ok (.bl (nought form)) G := by
  obtain ⟨k, rfl⟩ : ∃ m, k = m + 1 := ⟨k - 1, by omega⟩
  rw [run_at (A_noughts_gives_nought_by L) rfl k _ G rfl]
  obtain ⟨hf, hq⟩ := hf
  have hl := hf.2
  have hn := part_ne form
  have hz : (0 :: plc form).length ≤ 1000000 := by
    have h25 : prs.length = 25 := by decide
    have : (plc form).length ≤ prs.length := List.length_filter_le _ _
    rw [List.length_cons]; omega
  have e := lc_map (G := G) (xs := 0 :: plc form) W.int (fun p => givesW form (part form) p) W.bl (step := lcStep [2] (.nm 2) (evT L (run L fs k) .yes) (evE L (run L fs k) (.call I.noughts_gives_with (.cons (.v 0) (.cons (.v 1) (.cons (.v 2) .nil))) [])) [some (iT form), some (.int (part form)), none]) (fun p hp => by
    obtain ⟨p1, p2⟩ := zprs_bd p (plc_in hp)
    simp (disch := first | assumption | omega) only [List.map, List.map_cons, List.map_nil, Nat.reduceSub, List.replicate, List.cons_append, List.nil_append, List.append_nil, xs_cons, xs_nil, x_ret, x_asg, x_par, x_unp, x_drop, x_cond, x_loop, x_wh, x_raise1, x_setL, x_setF, x_app, x_try, e_fld, e_meth, e_lstT, g_nm, g_nil, IG.len, e_non, e_bl, e_int, e_str, e_v, e_g, e_op, e_neg, e_cmp, e_chain, e_and, e_or, e_not, e_ife, e_tup, e_lstF, e_ix, e_sl, e_call, e_bi, e_lc, e_isT, e_inG, e_ixG, es_nil, es_cons, es_star, o_no, o_yes, t_yes, t_and, t_or, t_not, t_val, t_tru, i_seq, i_r1, i_r2, i_enum, getS0, getSs, ofO_s, bindOk, bindEx, thnOk, thnEx, sthnNx, sthnRt, sthnEx, noexOk, endK_rt, endK_nx, endK_ex, c_eq_i, c_ne_i, c_eq_s, c_ne_s, c_lt, c_le, c_gt, c_ge, c_isN, c_notN, o_add, o_sub, o_mul, o_mod, o_div, o_addL, o_addT, tru_bl, tru_i, e_callK, e_callV, e_dct, e_mk, x_par3, x_setD, x_raise0, bi_lenT, bi_lenL, bi_min, bi_min2, bi_max2, bi_abs, bi_int, bi_intb, bi_tupL, bi_tupT, bi_lstT, bi_lstL, sl_L, sl_T, isNon, Option.map, List.set, and_self, if_true, if_false, Bool.false_eq_true, Bool.not_true, Bool.not_false, List.length, List.length_cons, List.length_nil, eq_self, Nat.zero_add, Nat.reduceAdd, Nat.reduceLeDiff, Option.bind_some, Option.isSome_some, decide_true, decide_false, List.length_map, seqOf, lcStep, bindTg, wipeR, d_gives])
  generalize hP : 0 :: plc form = pl at e hz
  have hp : ∀ k G, 1 ≤ k → run L fs k I.signs_places_by [iT form] G = .ok (iT pl) G := fun k G hk => by rw [← hP]; exact d_places form k G hk hl
  unfold nought
  rw [hP]
  cases h1 : (((form.length : Nat) : Int) == 1)
  · cases h2 : (((form.length : Nat) : Int) == 2)
    · have hle : (if ((form.length : Nat) : Int) - above form < above form then ((form.length : Nat) : Int) - above form else above form) = least form := rfl
      cases h3 : (least form == 0) <;> cases h4 : (decide (4 < ((form.length : Nat) : Int))) <;> simp (disch := first | assumption | omega) only [List.map, List.map_cons, List.map_nil, Nat.reduceSub, List.replicate, List.cons_append, List.nil_append, List.append_nil, xs_cons, xs_nil, x_ret, x_asg, x_par, x_unp, x_drop, x_cond, x_loop, x_wh, x_raise1, x_setL, x_setF, x_app, x_try, e_fld, e_meth, e_lstT, g_nm, g_nil, IG.len, e_non, e_bl, e_int, e_str, e_v, e_g, e_op, e_neg, e_cmp, e_chain, e_and, e_or, e_not, e_ife, e_tup, e_lstF, e_ix, e_sl, e_call, e_bi, e_lc, e_isT, e_inG, e_ixG, es_nil, es_cons, es_star, o_no, o_yes, t_yes, t_and, t_or, t_not, t_val, t_tru, i_seq, i_r1, i_r2, i_enum, getS0, getSs, ofO_s, bindOk, bindEx, thnOk, thnEx, sthnNx, sthnRt, sthnEx, noexOk, endK_rt, endK_nx, endK_ex, c_eq_i, c_ne_i, c_eq_s, c_ne_s, c_lt, c_le, c_gt, c_ge, c_isN, c_notN, o_add, o_sub, o_mul, o_mod, o_div, o_addL, o_addT, tru_bl, tru_i, e_callK, e_callV, e_dct, e_mk, x_par3, x_setD, x_raise0, bi_lenT, bi_lenL, bi_min, bi_min2, bi_max2, bi_abs, bi_int, bi_intb, bi_tupL, bi_tupT, bi_lstT, bi_lstL, sl_L, sl_T, isNon, Option.map, List.set, and_self, if_true, if_false, Bool.false_eq_true, Bool.not_true, Bool.not_false, List.length, List.length_cons, List.length_nil, eq_self, Nat.zero_add, Nat.reduceAdd, Nat.reduceLeDiff, Option.bind_some, Option.isSome_some, decide_true, decide_false, List.length_map, seqOf, f_noughts_gives_nought_by, b_noughts_gives_nought_by, h1, h2, d_part, d_size, hle, h3, h4, Bool.or_self, Bool.or_true, Bool.or_false, hp, hz, e, bi_all]
    · simp (disch := first | assumption | omega) only [List.map, List.map_cons, List.map_nil, Nat.reduceSub, List.replicate, List.cons_append, List.nil_append, List.append_nil, xs_cons, xs_nil, x_ret, x_asg, x_par, x_unp, x_drop, x_cond, x_loop, x_wh, x_raise1, x_setL, x_setF, x_app, x_try, e_fld, e_meth, e_lstT, g_nm, g_nil, IG.len, e_non, e_bl, e_int, e_str, e_v, e_g, e_op, e_neg, e_cmp, e_chain, e_and, e_or, e_not, e_ife, e_tup, e_lstF, e_ix, e_sl, e_call, e_bi, e_lc, e_isT, e_inG, e_ixG, es_nil, es_cons, es_star, o_no, o_yes, t_yes, t_and, t_or, t_not, t_val, t_tru, i_seq, i_r1, i_r2, i_enum, getS0, getSs, ofO_s, bindOk, bindEx, thnOk, thnEx, sthnNx, sthnRt, sthnEx, noexOk, endK_rt, endK_nx, endK_ex, c_eq_i, c_ne_i, c_eq_s, c_ne_s, c_lt, c_le, c_gt, c_ge, c_isN, c_notN, o_add, o_sub, o_mul, o_mod, o_div, o_addL, o_addT, tru_bl, tru_i, e_callK, e_callV, e_dct, e_mk, x_par3, x_setD, x_raise0, bi_lenT, bi_lenL, bi_min, bi_min2, bi_max2, bi_abs, bi_int, bi_intb, bi_tupL, bi_tupT, bi_lstT, bi_lstL, sl_L, sl_T, isNon, Option.map, List.set, and_self, if_true, if_false, Bool.false_eq_true, Bool.not_true, Bool.not_false, List.length, List.length_cons, List.length_nil, eq_self, Nat.zero_add, Nat.reduceAdd, Nat.reduceLeDiff, Option.bind_some, Option.isSome_some, decide_true, decide_false, List.length_map, seqOf, f_noughts_gives_nought_by, b_noughts_gives_nought_by, h1, h2, d_part]
  · simp (disch := first | assumption | omega) only [List.map, List.map_cons, List.map_nil, Nat.reduceSub, List.replicate, List.cons_append, List.nil_append, List.append_nil, xs_cons, xs_nil, x_ret, x_asg, x_par, x_unp, x_drop, x_cond, x_loop, x_wh, x_raise1, x_setL, x_setF, x_app, x_try, e_fld, e_meth, e_lstT, g_nm, g_nil, IG.len, e_non, e_bl, e_int, e_str, e_v, e_g, e_op, e_neg, e_cmp, e_chain, e_and, e_or, e_not, e_ife, e_tup, e_lstF, e_ix, e_sl, e_call, e_bi, e_lc, e_isT, e_inG, e_ixG, es_nil, es_cons, es_star, o_no, o_yes, t_yes, t_and, t_or, t_not, t_val, t_tru, i_seq, i_r1, i_r2, i_enum, getS0, getSs, ofO_s, bindOk, bindEx, thnOk, thnEx, sthnNx, sthnRt, sthnEx, noexOk, endK_rt, endK_nx, endK_ex, c_eq_i, c_ne_i, c_eq_s, c_ne_s, c_lt, c_le, c_gt, c_ge, c_isN, c_notN, o_add, o_sub, o_mul, o_mod, o_div, o_addL, o_addT, tru_bl, tru_i, e_callK, e_callV, e_dct, e_mk, x_par3, x_setD, x_raise0, bi_lenT, bi_lenL, bi_min, bi_min2, bi_max2, bi_abs, bi_int, bi_intb, bi_tupL, bi_tupT, bi_lstT, bi_lstL, sl_L, sl_T, isNon, Option.map, List.set, and_self, if_true, if_false, Bool.false_eq_true, Bool.not_true, Bool.not_false, List.length, List.length_cons, List.length_nil, eq_self, Nat.zero_add, Nat.reduceAdd, Nat.reduceLeDiff, Option.bind_some, Option.isSome_some, decide_true, decide_false, List.length_map, seqOf, f_noughts_gives_nought_by, b_noughts_gives_nought_by, h1]
end
end PI
end

section
set_option autoImplicit false
set_option maxHeartbeats 2000000
/-! S4: family E's own signs, parts, places. -/
namespace PI
open PySem (Str PyData)
open NF
theorem sortI_id {l : List Int} (h : l.Pairwise (· ≤ ·)) : sortI l = l := perm_uniq (perm_sortI l) (pw_sortI l) h
section
variable {I : Ix} {L : Lib} {fs : List Fn}
theorem e_primes [H_lawE_primes I L fs] (k : Nat) (G : Hh) (hk : 1 ≤ k) : run L fs k I.lawE_primes [] G = .ok (iL prs) G := by
  obtain ⟨k, rfl⟩ : ∃ m, k = m + 1 := ⟨k - 1, by omega⟩
  rw [run_at (A_lawE_primes L) rfl k _ G rfl]
  rfl
theorem e_out [H_lawE_out I L fs] (n p : Int) (k : Nat) (G : Hh) (hk : 1 ≤ k) (hn : n ≠ 0) (hp : 2 ≤ p) (hp2 : p < 1073741824) (hb : n.natAbs < 18446744073709551616) :
    run L fs k I.lawE_out [.int n, .int p] G = .ok (.tup [.int ((ord n p : Nat) : Int), .int (unt n p)]) G := by
  obtain ⟨k, rfl⟩ : ∃ m, k = m + 1 := ⟨k - 1, by omega⟩
  rw [run_at (A_lawE_out L) rfl k _ G rfl]
  have e := wh_ord (t := evT L (run L fs k) (.val (.cmp .eq (.op .mod (.bi .int (.cons (.v 0) .nil)) (.v 1)) (.int 0)))) (b := exSs L (run L fs k) (.cons (.par 0 2 (.op .fdiv (.v 0) (.v 1)) (.op .add (.v 2) (.int 1))) .nil)) hp
    (fun n m => [some (.int n), some (.int p), some (.int m)]) n.natAbs (fun n m G _ _ => by simp (disch := first | assumption | omega) only [List.map, List.map_cons, List.map_nil, Nat.reduceSub, List.replicate, List.cons_append, List.nil_append, List.append_nil, xs_cons, xs_nil, x_ret, x_asg, x_par, x_unp, x_drop, x_cond, x_loop, x_wh, x_raise1, x_setL, x_setF, x_app, x_try, e_fld, e_meth, e_lstT, g_nm, g_nil, IG.len, e_non, e_bl, e_int, e_str, e_v, e_g, e_op, e_neg, e_cmp, e_chain, e_and, e_or, e_not, e_ife, e_tup, e_lstF, e_ix, e_sl, e_call, e_bi, e_lc, e_isT, e_inG, e_ixG, es_nil, es_cons, es_star, o_no, o_yes, t_yes, t_and, t_or, t_not, t_val, t_tru, i_seq, i_r1, i_r2, i_enum, getS0, getSs, ofO_s, bindOk, bindEx, thnOk, thnEx, sthnNx, sthnRt, sthnEx, noexOk, endK_rt, endK_nx, endK_ex, c_eq_i, c_ne_i, c_eq_s, c_ne_s, c_lt, c_le, c_gt, c_ge, c_isN, c_notN, o_add, o_sub, o_mul, o_mod, o_div, o_addL, o_addT, tru_bl, tru_i, e_callK, e_callV, e_dct, e_mk, x_par3, x_setD, x_raise0, bi_lenT, bi_lenL, bi_min, bi_min2, bi_max2, bi_abs, bi_int, bi_intb, bi_tupL, bi_tupT, bi_lstT, bi_lstL, sl_L, sl_T, isNon, Option.map, List.set, and_self, if_true, if_false, Bool.false_eq_true, Bool.not_true, Bool.not_false, List.length, List.length_cons, List.length_nil, eq_self, Nat.zero_add, Nat.reduceAdd, Nat.reduceLeDiff, Option.bind_some, Option.isSome_some, decide_true, decide_false, List.length_map, seqOf]) (fun n m G _ _ _ => by simp (disch := first | assumption | omega) only [List.map, List.map_cons, List.map_nil, Nat.reduceSub, List.replicate, List.cons_append, List.nil_append, List.append_nil, xs_cons, xs_nil, x_ret, x_asg, x_par, x_unp, x_drop, x_cond, x_loop, x_wh, x_raise1, x_setL, x_setF, x_app, x_try, e_fld, e_meth, e_lstT, g_nm, g_nil, IG.len, e_non, e_bl, e_int, e_str, e_v, e_g, e_op, e_neg, e_cmp, e_chain, e_and, e_or, e_not, e_ife, e_tup, e_lstF, e_ix, e_sl, e_call, e_bi, e_lc, e_isT, e_inG, e_ixG, es_nil, es_cons, es_star, o_no, o_yes, t_yes, t_and, t_or, t_not, t_val, t_tru, i_seq, i_r1, i_r2, i_enum, getS0, getSs, ofO_s, bindOk, bindEx, thnOk, thnEx, sthnNx, sthnRt, sthnEx, noexOk, endK_rt, endK_nx, endK_ex, c_eq_i, c_ne_i, c_eq_s, c_ne_s, c_lt, c_le, c_gt, c_ge, c_isN, c_notN, o_add, o_sub, o_mul, o_mod, o_div, o_addL, o_addT, tru_bl, tru_i, e_callK, e_callV, e_dct, e_mk, x_par3, x_setD, x_raise0, bi_lenT, bi_lenL, bi_min, bi_min2, bi_max2, bi_abs, bi_int, bi_intb, bi_tupL, bi_tupT, bi_lstT, bi_lstL, sl_L, sl_T, isNon, Option.map, List.set, and_self, if_true, if_false, Bool.false_eq_true, Bool.not_true, Bool.not_false, List.length, List.length_cons, List.length_nil, eq_self, Nat.zero_add, Nat.reduceAdd, Nat.reduceLeDiff, Option.bind_some, Option.isSome_some, decide_true, decide_false, List.length_map, seqOf]) G 64 n 0 hn (by omega) (Nat.le_refl _) wfuel (by unfold wfuel; omega)
  rw [Int.zero_add] at e
  simp (disch := first | assumption | omega) only [List.map, List.map_cons, List.map_nil, Nat.reduceSub, List.replicate, List.cons_append, List.nil_append, List.append_nil, xs_cons, xs_nil, x_ret, x_asg, x_par, x_unp, x_drop, x_cond, x_loop, x_wh, x_raise1, x_setL, x_setF, x_app, x_try, e_fld, e_meth, e_lstT, g_nm, g_nil, IG.len, e_non, e_bl, e_int, e_str, e_v, e_g, e_op, e_neg, e_cmp, e_chain, e_and, e_or, e_not, e_ife, e_tup, e_lstF, e_ix, e_sl, e_call, e_bi, e_lc, e_isT, e_inG, e_ixG, es_nil, es_cons, es_star, o_no, o_yes, t_yes, t_and, t_or, t_not, t_val, t_tru, i_seq, i_r1, i_r2, i_enum, getS0, getSs, ofO_s, bindOk, bindEx, thnOk, thnEx, sthnNx, sthnRt, sthnEx, noexOk, endK_rt, endK_nx, endK_ex, c_eq_i, c_ne_i, c_eq_s, c_ne_s, c_lt, c_le, c_gt, c_ge, c_isN, c_notN, o_add, o_sub, o_mul, o_mod, o_div, o_addL, o_addT, tru_bl, tru_i, e_callK, e_callV, e_dct, e_mk, x_par3, x_setD, x_raise0, bi_lenT, bi_lenL, bi_min, bi_min2, bi_max2, bi_abs, bi_int, bi_intb, bi_tupL, bi_tupT, bi_lstT, bi_lstL, sl_L, sl_T, isNon, Option.map, List.set, and_self, if_true, if_false, Bool.false_eq_true, Bool.not_true, Bool.not_false, List.length, List.length_cons, List.length_nil, eq_self, Nat.zero_add, Nat.reduceAdd, Nat.reduceLeDiff, Option.bind_some, Option.isSome_some, decide_true, decide_false, List.length_map, seqOf, f_lawE_out, b_lawE_out, e]
theorem rs_half (u p : Int) (hp : 2 ≤ p) : (((List.range (p / 2 + 1 - 1).toNat).map fun i => (1 : Int) + ((i : Nat) : Int)).find? fun x => (x * x - u) % p == 0).isSome = (rsl u p).any id := by
  rw [Bool.eq_iff_iff]
  constructor
  · intro h
    obtain ⟨x, hx⟩ := Option.isSome_iff_exists.mp h
    have h1 := List.find?_some hx
    obtain ⟨i, hi, rfl⟩ := List.mem_map.mp (List.mem_of_find?_eq_some hx)
    have hi := List.mem_range.mp hi
    refine List.any_eq_true.mpr ⟨true, ?_, rfl⟩
    unfold rsl
    rw [List.map_map]
    exact List.mem_map.mpr ⟨i, List.mem_range.mpr (by omega), h1⟩
  · intro h
    obtain ⟨b, hb, hb2⟩ := List.any_eq_true.mp h
    unfold rsl at hb
    rw [List.map_map] at hb
    obtain ⟨i, hi, e⟩ := List.mem_map.mp hb
    have hi := List.mem_range.mp hi
    have hb2 : b = true := hb2
    subst hb2
    have e : (((1 : Int) + ((i : Nat) : Int)) * (1 + ((i : Nat) : Int)) - u) % p == 0 := e
    have e := eq_of_beq e
    rw [List.find?_isSome]
    by_cases c : i < (p / 2 + 1 - 1).toNat
    · exact ⟨_, List.mem_map.mpr ⟨i, List.mem_range.mpr c, rfl⟩, by simpa using e⟩
    · refine ⟨1 + (((p - 2 - (i : Int)).toNat : Nat) : Int), List.mem_map.mpr ⟨(p - 2 - (i : Int)).toNat, List.mem_range.mpr (by omega), rfl⟩, ?_⟩
      have e1 : (((p - 2 - (i : Int)).toNat : Nat) : Int) = p - 2 - (i : Int) := by omega
      rw [e1]
      have e2 : (1 + (p - 2 - (i : Int))) * (1 + (p - 2 - (i : Int))) - u = ((1 + (i : Int)) * (1 + (i : Int)) - u) + p * (p - 2 * (1 + (i : Int))) := by
        have : 1 + (p - 2 - (i : Int)) = p - (1 + (i : Int)) := by omega
        rw [this]
        generalize 1 + (i : Int) = y
        rw [Int.sub_mul, Int.mul_sub, Int.mul_sub, Int.mul_sub]
        have : p * (2 * y) = p * y + p * y := by rw [← Int.mul_add]; congr 1; omega
        rw [this, Int.mul_comm y p]
        omega
      have e3 : ((1 + (p - 2 - (i : Int))) * (1 + (p - 2 - (i : Int))) - u) % p = 0 := by rw [e2, Int.add_mul_emod_self_left]; exact e
      simpa using e3
theorem e_rest [H_lawE_rest_sign I L fs] (u p : Int) (k : Nat) (G : Hh) (hk : 1 ≤ k) (hp : 2 ≤ p) (hp2 : p ≤ 1000) : run L fs k I.lawE_rest_sign [.int u, .int p] G = .ok (.int (rs u p)) G := by
  obtain ⟨k, rfl⟩ : ∃ m, k = m + 1 := ⟨k - 1, by omega⟩
  rw [run_at (A_lawE_rest_sign L) rfl k _ G rfl]
  have hh := rs_half u p hp
  have hr : (-1000000 ≤ (1 : Int) ∧ (1 : Int) ≤ 1000000) ∧ -1000000 ≤ p / 2 + 1 ∧ p / 2 + 1 ≤ 1000000 := by omega
  rcases loop_find (G := G) W.int (fun ρ => ∃ y : Option W, ρ = [some (.int u), some (.int p), y]) (fun x => (x * x - u) % p == 0) (fun _ => W.int 1) (xs := (List.range (p / 2 + 1 - 1).toNat).map fun i => (1 : Int) + ((i : Nat) : Int))
    (step := forStep (.nm 2) (exSs L (run L fs k) (.cons (.cond (.val (.cmp .eq (.op .mod (.bi .int (.cons (.op .sub (.op .mul (.v 2) (.v 2)) (.v 0)) .nil)) (.v 1)) (.int 0))) (.cons (.ret (.int 1)) .nil) .nil) .nil)))
    (ρ := [some (.int u), some (.int p), none]) (fun x hx ρ ⟨y, e⟩ => by
      subst e
      obtain ⟨i, hi, rfl⟩ := List.mem_map.mp hx
      have hi := List.mem_range.mp hi
      cases h : ((1 + (i : Int)) * (1 + (i : Int)) - u) % p == 0
      · exact .inr ⟨rfl, [some (.int u), some (.int p), some (.int (1 + (i : Int)))], by simp (disch := first | assumption | omega) only [List.map, List.map_cons, List.map_nil, Nat.reduceSub, List.replicate, List.cons_append, List.nil_append, List.append_nil, xs_cons, xs_nil, x_ret, x_asg, x_par, x_unp, x_drop, x_cond, x_loop, x_wh, x_raise1, x_setL, x_setF, x_app, x_try, e_fld, e_meth, e_lstT, g_nm, g_nil, IG.len, e_non, e_bl, e_int, e_str, e_v, e_g, e_op, e_neg, e_cmp, e_chain, e_and, e_or, e_not, e_ife, e_tup, e_lstF, e_ix, e_sl, e_call, e_bi, e_lc, e_isT, e_inG, e_ixG, es_nil, es_cons, es_star, o_no, o_yes, t_yes, t_and, t_or, t_not, t_val, t_tru, i_seq, i_r1, i_r2, i_enum, getS0, getSs, ofO_s, bindOk, bindEx, thnOk, thnEx, sthnNx, sthnRt, sthnEx, noexOk, endK_rt, endK_nx, endK_ex, c_eq_i, c_ne_i, c_eq_s, c_ne_s, c_lt, c_le, c_gt, c_ge, c_isN, c_notN, o_add, o_sub, o_mul, o_mod, o_div, o_addL, o_addT, tru_bl, tru_i, e_callK, e_callV, e_dct, e_mk, x_par3, x_setD, x_raise0, bi_lenT, bi_lenL, bi_min, bi_min2, bi_max2, bi_abs, bi_int, bi_intb, bi_tupL, bi_tupT, bi_lstT, bi_lstL, sl_L, sl_T, isNon, Option.map, List.set, and_self, if_true, if_false, Bool.false_eq_true, Bool.not_true, Bool.not_false, List.length, List.length_cons, List.length_nil, eq_self, Nat.zero_add, Nat.reduceAdd, Nat.reduceLeDiff, Option.bind_some, Option.isSome_some, decide_true, decide_false, List.length_map, seqOf, forStep, bindTg, h], _, rfl⟩
      · exact .inl ⟨rfl, by simp (disch := first | assumption | omega) only [List.map, List.map_cons, List.map_nil, Nat.reduceSub, List.replicate, List.cons_append, List.nil_append, List.append_nil, xs_cons, xs_nil, x_ret, x_asg, x_par, x_unp, x_drop, x_cond, x_loop, x_wh, x_raise1, x_setL, x_setF, x_app, x_try, e_fld, e_meth, e_lstT, g_nm, g_nil, IG.len, e_non, e_bl, e_int, e_str, e_v, e_g, e_op, e_neg, e_cmp, e_chain, e_and, e_or, e_not, e_ife, e_tup, e_lstF, e_ix, e_sl, e_call, e_bi, e_lc, e_isT, e_inG, e_ixG, es_nil, es_cons, es_star, o_no, o_yes, t_yes, t_and, t_or, t_not, t_val, t_tru, i_seq, i_r1, i_r2, i_enum, getS0, getSs, ofO_s, bindOk, bindEx, thnOk, thnEx, sthnNx, sthnRt, sthnEx, noexOk, endK_rt, endK_nx, endK_ex, c_eq_i, c_ne_i, c_eq_s, c_ne_s, c_lt, c_le, c_gt, c_ge, c_isN, c_notN, o_add, o_sub, o_mul, o_mod, o_div, o_addL, o_addT, tru_bl, tru_i, e_callK, e_callV, e_dct, e_mk, x_par3, x_setD, x_raise0, bi_lenT, bi_lenL, bi_min, bi_min2, bi_max2, bi_abs, bi_int, bi_intb, bi_tupL, bi_tupT, bi_lstT, bi_lstL, sl_L, sl_T, isNon, Option.map, List.set, and_self, if_true, if_false, Bool.false_eq_true, Bool.not_true, Bool.not_false, List.length, List.length_cons, List.length_nil, eq_self, Nat.zero_add, Nat.reduceAdd, Nat.reduceLeDiff, Option.bind_some, Option.isSome_some, decide_true, decide_false, List.length_map, seqOf, forStep, bindTg, h]⟩) ⟨none, rfl⟩ with ⟨a, h1, e1⟩ | ⟨h1, ρ', e1, y, rfl⟩
  · rw [h1] at hh
    have hh : (rsl u p).any id = true := hh.symm
    unfold rs
    rw [hh]
    simp (disch := first | assumption | omega) only [List.map, List.map_cons, List.map_nil, Nat.reduceSub, List.replicate, List.cons_append, List.nil_append, List.append_nil, xs_cons, xs_nil, x_ret, x_asg, x_par, x_unp, x_drop, x_cond, x_loop, x_wh, x_raise1, x_setL, x_setF, x_app, x_try, e_fld, e_meth, e_lstT, g_nm, g_nil, IG.len, e_non, e_bl, e_int, e_str, e_v, e_g, e_op, e_neg, e_cmp, e_chain, e_and, e_or, e_not, e_ife, e_tup, e_lstF, e_ix, e_sl, e_call, e_bi, e_lc, e_isT, e_inG, e_ixG, es_nil, es_cons, es_star, o_no, o_yes, t_yes, t_and, t_or, t_not, t_val, t_tru, i_seq, i_r1, i_r2, i_enum, getS0, getSs, ofO_s, bindOk, bindEx, thnOk, thnEx, sthnNx, sthnRt, sthnEx, noexOk, endK_rt, endK_nx, endK_ex, c_eq_i, c_ne_i, c_eq_s, c_ne_s, c_lt, c_le, c_gt, c_ge, c_isN, c_notN, o_add, o_sub, o_mul, o_mod, o_div, o_addL, o_addT, tru_bl, tru_i, e_callK, e_callV, e_dct, e_mk, x_par3, x_setD, x_raise0, bi_lenT, bi_lenL, bi_min, bi_min2, bi_max2, bi_abs, bi_int, bi_intb, bi_tupL, bi_tupT, bi_lstT, bi_lstL, sl_L, sl_T, isNon, Option.map, List.set, and_self, if_true, if_false, Bool.false_eq_true, Bool.not_true, Bool.not_false, List.length, List.length_cons, List.length_nil, eq_self, Nat.zero_add, Nat.reduceAdd, Nat.reduceLeDiff, Option.bind_some, Option.isSome_some, decide_true, decide_false, List.length_map, seqOf, f_lawE_rest_sign, b_lawE_rest_sign, hr, range_map, e1]
  · rw [h1] at hh
    have hh : (rsl u p).any id = false := hh.symm
    unfold rs
    rw [hh]
    simp (disch := first | assumption | omega) only [List.map, List.map_cons, List.map_nil, Nat.reduceSub, List.replicate, List.cons_append, List.nil_append, List.append_nil, xs_cons, xs_nil, x_ret, x_asg, x_par, x_unp, x_drop, x_cond, x_loop, x_wh, x_raise1, x_setL, x_setF, x_app, x_try, e_fld, e_meth, e_lstT, g_nm, g_nil, IG.len, e_non, e_bl, e_int, e_str, e_v, e_g, e_op, e_neg, e_cmp, e_chain, e_and, e_or, e_not, e_ife, e_tup, e_lstF, e_ix, e_sl, e_call, e_bi, e_lc, e_isT, e_inG, e_ixG, es_nil, es_cons, es_star, o_no, o_yes, t_yes, t_and, t_or, t_not, t_val, t_tru, i_seq, i_r1, i_r2, i_enum, getS0, getSs, ofO_s, bindOk, bindEx, thnOk, thnEx, sthnNx, sthnRt, sthnEx, noexOk, endK_rt, endK_nx, endK_ex, c_eq_i, c_ne_i, c_eq_s, c_ne_s, c_lt, c_le, c_gt, c_ge, c_isN, c_notN, o_add, o_sub, o_mul, o_mod, o_div, o_addL, o_addT, tru_bl, tru_i, e_callK, e_callV, e_dct, e_mk, x_par3, x_setD, x_raise0, bi_lenT, bi_lenL, bi_min, bi_min2, bi_max2, bi_abs, bi_int, bi_intb, bi_tupL, bi_tupT, bi_lstT, bi_lstL, sl_L, sl_T, isNon, Option.map, List.set, and_self, if_true, if_false, Bool.false_eq_true, Bool.not_true, Bool.not_false, List.length, List.length_cons, List.length_nil, eq_self, Nat.zero_add, Nat.reduceAdd, Nat.reduceLeDiff, Option.bind_some, Option.isSome_some, decide_true, decide_false, List.length_map, seqOf, f_lawE_rest_sign, b_lawE_rest_sign, hr, range_map, e1]
theorem odd_mul (a b : Int) : odd (a * b) = (odd a && odd b) := by
  unfold odd
  have h := Int.mul_emod a b 2
  have ha := Int.emod_two_eq a
  have hb := Int.emod_two_eq b
  rcases ha with ha | ha <;> rcases hb with hb | hb <;> rw [ha, hb] at h <;> simp [ha, hb, h]
theorem ord_bd {a p : Int} (hp : 2 ≤ p) (ha : a ≠ 0) (ha2 : a.natAbs < 18446744073709551616) : ord a p < 64 := by
  by_cases h : ord a p < 64
  · exact h
  · exfalso
    obtain ⟨q, _⟩ := ord_spec hp ha
    have h1 : a.natAbs = (p ^ ord a p).natAbs * (unt a p).natAbs := by rw [← Int.natAbs_mul, ← q]
    have h2 : (p ^ ord a p).natAbs = p.natAbs ^ ord a p := by rw [Int.natAbs_pow]
    have h3 : 2 ^ 64 ≤ p.natAbs ^ ord a p := Nat.le_trans (Nat.pow_le_pow_left (show 2 ≤ p.natAbs by omega) 64) (Nat.pow_le_pow_right (by omega) (by omega))
    have h4 : 1 ≤ (unt a p).natAbs := by have := unt_ne hp ha; omega
    have h5 : p.natAbs ^ ord a p * 1 ≤ p.natAbs ^ ord a p * (unt a p).natAbs := Nat.mul_le_mul_left _ h4
    rw [h2] at h1
    omega
theorem e_sign [H_lawE_sign I L fs] (a b p : Int) (k : Nat) (G : Hh) (hk : 2 ≤ k) (ha : a ≠ 0) (hb : b ≠ 0) (ha2 : a.natAbs < 18446744073709551616) (hb2 : b.natAbs < 18446744073709551616) (hp : p = 0 ∨ 2 ≤ p) (hp2 : p ≤ 1000) :
    run L fs k I.lawE_sign [.int a, .int b, .int p] G = .ok (.int (hs a b p)) G := by
  obtain ⟨k, rfl⟩ : ∃ m, k = m + 1 := ⟨k - 1, by omega⟩
  rw [run_at (A_lawE_sign L) rfl k _ G rfl]
  unfold hs
  by_cases h0 : p = 0
  · subst h0
    cases h1 : decide (a < 0) <;> cases h2 : decide (b < 0) <;> simp (disch := first | assumption | omega) only [List.map, List.map_cons, List.map_nil, Nat.reduceSub, List.replicate, List.cons_append, List.nil_append, List.append_nil, xs_cons, xs_nil, x_ret, x_asg, x_par, x_unp, x_drop, x_cond, x_loop, x_wh, x_raise1, x_setL, x_setF, x_app, x_try, e_fld, e_meth, e_lstT, g_nm, g_nil, IG.len, e_non, e_bl, e_int, e_str, e_v, e_g, e_op, e_neg, e_cmp, e_chain, e_and, e_or, e_not, e_ife, e_tup, e_lstF, e_ix, e_sl, e_call, e_bi, e_lc, e_isT, e_inG, e_ixG, es_nil, es_cons, es_star, o_no, o_yes, t_yes, t_and, t_or, t_not, t_val, t_tru, i_seq, i_r1, i_r2, i_enum, getS0, getSs, ofO_s, bindOk, bindEx, thnOk, thnEx, sthnNx, sthnRt, sthnEx, noexOk, endK_rt, endK_nx, endK_ex, c_eq_i, c_ne_i, c_eq_s, c_ne_s, c_lt, c_le, c_gt, c_ge, c_isN, c_notN, o_add, o_sub, o_mul, o_mod, o_div, o_addL, o_addT, tru_bl, tru_i, e_callK, e_callV, e_dct, e_mk, x_par3, x_setD, x_raise0, bi_lenT, bi_lenL, bi_min, bi_min2, bi_max2, bi_abs, bi_int, bi_intb, bi_tupL, bi_tupT, bi_lstT, bi_lstL, sl_L, sl_T, isNon, Option.map, List.set, and_self, if_true, if_false, Bool.false_eq_true, Bool.not_true, Bool.not_false, List.length, List.length_cons, List.length_nil, eq_self, Nat.zero_add, Nat.reduceAdd, Nat.reduceLeDiff, Option.bind_some, Option.isSome_some, decide_true, decide_false, List.length_map, seqOf, f_lawE_sign, b_lawE_sign, h1, h2, beq_self_eq_true, Bool.and_self, Bool.and_true, Bool.and_false]
  · have z1 : (p == 0) = false := by simpa using h0
    have o1 := ord_bd (p := p) (by omega) ha ha2
    have o2 := ord_bd (p := p) (by omega) hb hb2
    have u1 := unt_le (n := a) (p := p) (by omega) ha
    have u2 := unt_le (n := b) (p := p) (by omega) hb
    by_cases h2 : p = 2
    · subst h2
      have ho : ((told2 a b) % 2 == 1) = odd (told2 a b) := rfl
      unfold hs2
      cases h3 : odd (told2 a b) <;> (unfold odd told2 at h3; simp (disch := first | assumption | omega) only [List.map, List.map_cons, List.map_nil, Nat.reduceSub, List.replicate, List.cons_append, List.nil_append, List.append_nil, xs_cons, xs_nil, x_ret, x_asg, x_par, x_unp, x_drop, x_cond, x_loop, x_wh, x_raise1, x_setL, x_setF, x_app, x_try, e_fld, e_meth, e_lstT, g_nm, g_nil, IG.len, e_non, e_bl, e_int, e_str, e_v, e_g, e_op, e_neg, e_cmp, e_chain, e_and, e_or, e_not, e_ife, e_tup, e_lstF, e_ix, e_sl, e_call, e_bi, e_lc, e_isT, e_inG, e_ixG, es_nil, es_cons, es_star, o_no, o_yes, t_yes, t_and, t_or, t_not, t_val, t_tru, i_seq, i_r1, i_r2, i_enum, getS0, getSs, ofO_s, bindOk, bindEx, thnOk, thnEx, sthnNx, sthnRt, sthnEx, noexOk, endK_rt, endK_nx, endK_ex, c_eq_i, c_ne_i, c_eq_s, c_ne_s, c_lt, c_le, c_gt, c_ge, c_isN, c_notN, o_add, o_sub, o_mul, o_mod, o_div, o_addL, o_addT, tru_bl, tru_i, e_callK, e_callV, e_dct, e_mk, x_par3, x_setD, x_raise0, bi_lenT, bi_lenL, bi_min, bi_min2, bi_max2, bi_abs, bi_int, bi_intb, bi_tupL, bi_tupT, bi_lstT, bi_lstL, sl_L, sl_T, isNon, Option.map, List.set, and_self, if_true, if_false, Bool.false_eq_true, Bool.not_true, Bool.not_false, List.length, List.length_cons, List.length_nil, eq_self, Nat.zero_add, Nat.reduceAdd, Nat.reduceLeDiff, Option.bind_some, Option.isSome_some, decide_true, decide_false, List.length_map, seqOf, f_lawE_sign, b_lawE_sign, e_out, z1, h0, beq_self_eq_true, h3])
    · have z2 : (p == 2) = false := by simpa using h2
      have r1 := rs_pm (unt a p) p
      have r2 := rs_pm (unt b p) p
      have hm : ((ord a p : Nat) : Int) * ((ord b p : Nat) : Int) < 18446744073709551616 ∧ 0 ≤ ((ord a p : Nat) : Int) * ((ord b p : Nat) : Int) := by
        have h1 : ord a p * ord b p ≤ 64 * 64 := Nat.mul_le_mul (by omega) (by omega)
        have h2 : ((ord a p : Nat) : Int) * ((ord b p : Nat) : Int) = ((ord a p * ord b p : Nat) : Int) := by rw [Int.natCast_mul]
        omega
      have ho : (((ord a p : Nat) : Int) * ((ord b p : Nat) : Int) * ((p - 1) / 2) % 2 == 1) = (odd ((ord a p : Nat) : Int) && (odd ((ord b p : Nat) : Int) && odd ((p - 1) / 2))) := by
        show odd _ = _
        rw [odd_mul, odd_mul, Bool.and_assoc]
      have w1 : (((ord a p : Nat) : Int) % 2 == 1) = odd ((ord a p : Nat) : Int) := rfl
      have w2 : (((ord b p : Nat) : Int) % 2 == 1) = odd ((ord b p : Nat) : Int) := rfl
      cases h3 : odd ((ord a p : Nat) : Int) <;> cases h4 : odd ((ord b p : Nat) : Int) <;> cases h5 : odd ((p - 1) / 2) <;>
        simp (disch := first | assumption | omega) only [List.map, List.map_cons, List.map_nil, Nat.reduceSub, List.replicate, List.cons_append, List.nil_append, List.append_nil, xs_cons, xs_nil, x_ret, x_asg, x_par, x_unp, x_drop, x_cond, x_loop, x_wh, x_raise1, x_setL, x_setF, x_app, x_try, e_fld, e_meth, e_lstT, g_nm, g_nil, IG.len, e_non, e_bl, e_int, e_str, e_v, e_g, e_op, e_neg, e_cmp, e_chain, e_and, e_or, e_not, e_ife, e_tup, e_lstF, e_ix, e_sl, e_call, e_bi, e_lc, e_isT, e_inG, e_ixG, es_nil, es_cons, es_star, o_no, o_yes, t_yes, t_and, t_or, t_not, t_val, t_tru, i_seq, i_r1, i_r2, i_enum, getS0, getSs, ofO_s, bindOk, bindEx, thnOk, thnEx, sthnNx, sthnRt, sthnEx, noexOk, endK_rt, endK_nx, endK_ex, c_eq_i, c_ne_i, c_eq_s, c_ne_s, c_lt, c_le, c_gt, c_ge, c_isN, c_notN, o_add, o_sub, o_mul, o_mod, o_div, o_addL, o_addT, tru_bl, tru_i, e_callK, e_callV, e_dct, e_mk, x_par3, x_setD, x_raise0, bi_lenT, bi_lenL, bi_min, bi_min2, bi_max2, bi_abs, bi_int, bi_intb, bi_tupL, bi_tupT, bi_lstT, bi_lstL, sl_L, sl_T, isNon, Option.map, List.set, and_self, if_true, if_false, Bool.false_eq_true, Bool.not_true, Bool.not_false, List.length, List.length_cons, List.length_nil, eq_self, Nat.zero_add, Nat.reduceAdd, Nat.reduceLeDiff, Option.bind_some, Option.isSome_some, decide_true, decide_false, List.length_map, seqOf, f_lawE_sign, b_lawE_sign, e_out, e_rest, z1, z2, h0, h2, ho, w1, w2, h3, h4, h5, hsp, hsp1, hsp0, Bool.and_self, Bool.and_true, Bool.and_false, Bool.true_and, Bool.false_and, Int.one_mul, Int.neg_mul]
theorem e_square [H_lawE_is_square I L fs] (n p : Int) (k : Nat) (G : Hh) (hk : 2 ≤ k) (hn : n ≠ 0) (hn2 : n.natAbs < 18446744073709551616) (hp : p = 0 ∨ 2 ≤ p) (hp2 : p ≤ 1000) :
    run L fs k I.lawE_is_square [.int n, .int p] G = .ok (.bl (isq n p)) G := by
  obtain ⟨k, rfl⟩ : ∃ m, k = m + 1 := ⟨k - 1, by omega⟩
  rw [run_at (A_lawE_is_square L) rfl k _ G rfl]
  unfold isq
  by_cases h0 : p = 0
  · subst h0
    simp (disch := first | assumption | omega) only [List.map, List.map_cons, List.map_nil, Nat.reduceSub, List.replicate, List.cons_append, List.nil_append, List.append_nil, xs_cons, xs_nil, x_ret, x_asg, x_par, x_unp, x_drop, x_cond, x_loop, x_wh, x_raise1, x_setL, x_setF, x_app, x_try, e_fld, e_meth, e_lstT, g_nm, g_nil, IG.len, e_non, e_bl, e_int, e_str, e_v, e_g, e_op, e_neg, e_cmp, e_chain, e_and, e_or, e_not, e_ife, e_tup, e_lstF, e_ix, e_sl, e_call, e_bi, e_lc, e_isT, e_inG, e_ixG, es_nil, es_cons, es_star, o_no, o_yes, t_yes, t_and, t_or, t_not, t_val, t_tru, i_seq, i_r1, i_r2, i_enum, getS0, getSs, ofO_s, bindOk, bindEx, thnOk, thnEx, sthnNx, sthnRt, sthnEx, noexOk, endK_rt, endK_nx, endK_ex, c_eq_i, c_ne_i, c_eq_s, c_ne_s, c_lt, c_le, c_gt, c_ge, c_isN, c_notN, o_add, o_sub, o_mul, o_mod, o_div, o_addL, o_addT, tru_bl, tru_i, e_callK, e_callV, e_dct, e_mk, x_par3, x_setD, x_raise0, bi_lenT, bi_lenL, bi_min, bi_min2, bi_max2, bi_abs, bi_int, bi_intb, bi_tupL, bi_tupT, bi_lstT, bi_lstL, sl_L, sl_T, isNon, Option.map, List.set, and_self, if_true, if_false, Bool.false_eq_true, Bool.not_true, Bool.not_false, List.length, List.length_cons, List.length_nil, eq_self, Nat.zero_add, Nat.reduceAdd, Nat.reduceLeDiff, Option.bind_some, Option.isSome_some, decide_true, decide_false, List.length_map, seqOf, f_lawE_is_square, b_lawE_is_square, beq_self_eq_true]
  · have z1 : (p == 0) = false := by simpa using h0
    have w1 : (((ord n p : Nat) : Int) % 2 == 1) = odd ((ord n p : Nat) : Int) := rfl
    by_cases h2 : p = 2
    · subst h2
      cases h1 : odd ((ord n 2 : Nat) : Int) <;> simp (disch := first | assumption | omega) only [List.map, List.map_cons, List.map_nil, Nat.reduceSub, List.replicate, List.cons_append, List.nil_append, List.append_nil, xs_cons, xs_nil, x_ret, x_asg, x_par, x_unp, x_drop, x_cond, x_loop, x_wh, x_raise1, x_setL, x_setF, x_app, x_try, e_fld, e_meth, e_lstT, g_nm, g_nil, IG.len, e_non, e_bl, e_int, e_str, e_v, e_g, e_op, e_neg, e_cmp, e_chain, e_and, e_or, e_not, e_ife, e_tup, e_lstF, e_ix, e_sl, e_call, e_bi, e_lc, e_isT, e_inG, e_ixG, es_nil, es_cons, es_star, o_no, o_yes, t_yes, t_and, t_or, t_not, t_val, t_tru, i_seq, i_r1, i_r2, i_enum, getS0, getSs, ofO_s, bindOk, bindEx, thnOk, thnEx, sthnNx, sthnRt, sthnEx, noexOk, endK_rt, endK_nx, endK_ex, c_eq_i, c_ne_i, c_eq_s, c_ne_s, c_lt, c_le, c_gt, c_ge, c_isN, c_notN, o_add, o_sub, o_mul, o_mod, o_div, o_addL, o_addT, tru_bl, tru_i, e_callK, e_callV, e_dct, e_mk, x_par3, x_setD, x_raise0, bi_lenT, bi_lenL, bi_min, bi_min2, bi_max2, bi_abs, bi_int, bi_intb, bi_tupL, bi_tupT, bi_lstT, bi_lstL, sl_L, sl_T, isNon, Option.map, List.set, and_self, if_true, if_false, Bool.false_eq_true, Bool.not_true, Bool.not_false, List.length, List.length_cons, List.length_nil, eq_self, Nat.zero_add, Nat.reduceAdd, Nat.reduceLeDiff, Option.bind_some, Option.isSome_some, decide_true, decide_false, List.length_map, seqOf, f_lawE_is_square, b_lawE_is_square, e_out, w1, z1, h0, h1, beq_self_eq_true]
    · have z2 : (p == 2) = false := by simpa using h2
      cases h1 : odd ((ord n p : Nat) : Int) <;> simp (disch := first | assumption | omega) only [List.map, List.map_cons, List.map_nil, Nat.reduceSub, List.replicate, List.cons_append, List.nil_append, List.append_nil, xs_cons, xs_nil, x_ret, x_asg, x_par, x_unp, x_drop, x_cond, x_loop, x_wh, x_raise1, x_setL, x_setF, x_app, x_try, e_fld, e_meth, e_lstT, g_nm, g_nil, IG.len, e_non, e_bl, e_int, e_str, e_v, e_g, e_op, e_neg, e_cmp, e_chain, e_and, e_or, e_not, e_ife, e_tup, e_lstF, e_ix, e_sl, e_call, e_bi, e_lc, e_isT, e_inG, e_ixG, es_nil, es_cons, es_star, o_no, o_yes, t_yes, t_and, t_or, t_not, t_val, t_tru, i_seq, i_r1, i_r2, i_enum, getS0, getSs, ofO_s, bindOk, bindEx, thnOk, thnEx, sthnNx, sthnRt, sthnEx, noexOk, endK_rt, endK_nx, endK_ex, c_eq_i, c_ne_i, c_eq_s, c_ne_s, c_lt, c_le, c_gt, c_ge, c_isN, c_notN, o_add, o_sub, o_mul, o_mod, o_div, o_addL, o_addT, tru_bl, tru_i, e_callK, e_callV, e_dct, e_mk, x_par3, x_setD, x_raise0, bi_lenT, bi_lenL, bi_min, bi_min2, bi_max2, bi_abs, bi_int, bi_intb, bi_tupL, bi_tupT, bi_lstT, bi_lstL, sl_L, sl_T, isNon, Option.map, List.set, and_self, if_true, if_false, Bool.false_eq_true, Bool.not_true, Bool.not_false, List.length, List.length_cons, List.length_nil, eq_self, Nat.zero_add, Nat.reduceAdd, Nat.reduceLeDiff, Option.bind_some, Option.isSome_some, decide_true, decide_false, List.length_map, seqOf, f_lawE_is_square, b_lawE_is_square, e_out, e_rest, w1, z1, z2, h0, h2, h1]
end
end PI
end

section
set_option autoImplicit false
set_option maxHeartbeats 2000000
/-! S5: family E's own cores, parts, places, noughts. -/
namespace PI
open PySem (Str PyData)
open NF
/-! ### the core, by dividing -/
def absI (f : Int) : Int := if f < 0 then -f else f
theorem absI_eq (f : Int) : absI f = ((f.natAbs : Nat) : Int) := by unfold absI; split <;> omega
theorem wh_core {t : Rho → Hh → R Bool} {b : Rho → Hh → RS} (st : Int → Int → Rho) (N : Nat) (hN : N < 1073741824) (ht : ∀ f y G, 2 ≤ y → y ≤ 40000 → f ≠ 0 → f.natAbs ≤ N → t (st f y) G = .ok (decide (y * y ≤ absI f)) G)
    (hb1 : ∀ f y G, 2 ≤ y → y ≤ 40000 → f ≠ 0 → f.natAbs ≤ N → 0 < y * y → y * y < 1073741824 → f % (y * y) = 0 → b (st f y) G = .nx (st (f / (y * y)) y) G) (hb2 : ∀ f y G, 2 ≤ y → y ≤ 40000 → f ≠ 0 → f.natAbs ≤ N → 0 < y * y → y * y < 1073741824 → f % (y * y) ≠ 0 → b (st f y) G = .nx (st f (y + 1)) G) (G : Hh) :
    ∀ (j : Nat) (f y : Int), 2 ≤ y → y ≤ 40000 → f ≠ 0 → f.natAbs ≤ N → (∀ d : Nat, 2 ≤ d → (d : Int) < y → ¬ d * d ∣ f.natAbs) → f.natAbs + (40000 - y).toNat < j → ∀ F, j < F →
      ∃ c m y', whRun t b F (st f y) G = .nx (st c y') G ∧ Sqf c ∧ m ≠ 0 ∧ f = c * (m * m)
  | 0, f, y, _, _, _, _, _, hj, _, _ => by omega
  | j + 1, f, y, hy, hy2, hf, hfN, hd, hj, F, hF => by
    obtain ⟨F, rfl⟩ : ∃ F', F = F' + 1 := ⟨F - 1, by omega⟩
    rw [whRun, ht f y G hy hy2 hf hfN, thnOk]
    by_cases c : y * y ≤ absI f
    · have hsq : y * y < 1073741824 := by have := absI_eq f; omega
      have hpos : 4 ≤ y * y := Int.mul_le_mul (a := 2) (b := 2) hy hy (by omega) (by omega)
      rw [decide_eq_true c, if_pos rfl]
      by_cases h : f % (y * y) = 0
      · rw [hb1 f y G hy hy2 hf hfN (by omega) hsq h, sthnNx]
        obtain ⟨h0, h1, h2⟩ := div_less (p := y * y) (by omega) hf h
        obtain ⟨c', m, y', e, s, hm, hf'⟩ := wh_core st N hN ht hb1 hb2 G j (f / (y * y)) y hy hy2 h0 (by omega) (fun d h2' h3 hdv => hd d h2' h3 (Nat.dvd_trans hdv (by
          have := Int.natAbs_mul (y * y) (f / (y * y))
          rw [← h2] at this
          exact ⟨(y * y).natAbs, by rw [this, Nat.mul_comm]⟩))) (by omega) F (by omega)
        refine ⟨c', m * y, y', e, s, Int.mul_ne_zero hm (by omega), ?_⟩
        have : c' * (m * y * (m * y)) = y * y * (c' * (m * m)) := by simp only [Int.mul_assoc, Int.mul_left_comm, Int.mul_comm]
        rw [this, ← hf']
        exact h2
      · rw [hb2 f y G hy hy2 hf hfN (by omega) hsq h, sthnNx]
        have hy3 : y < 39999 := by
          by_cases z : y < 39999
          · exact z
          · exfalso
            have := Int.mul_le_mul (a := 39999) (b := 39999) (c := y) (d := y) (by omega) (by omega) (by omega) (by omega)
            omega
        obtain ⟨c', m, y', e, s, hm, hf'⟩ := wh_core st N hN ht hb1 hb2 G j f (y + 1) (by omega) (by omega) hf hfN (fun d h2' h3 hdv => by
          by_cases z : (d : Int) < y
          · exact hd d h2' z hdv
          · have e : (d : Int) = y := by omega
            apply h
            rw [← e]
            have : (((d * d : Nat) : Int)) ∣ f := Int.ofNat_dvd_left.mpr hdv
            rw [Int.natCast_mul] at this
            exact Int.emod_eq_zero_of_dvd this) (by omega) F (by omega)
        exact ⟨c', m, y', e, s, hm, hf'⟩
    · rw [decide_eq_false c, if_neg Bool.false_ne_true]
      refine ⟨f, 1, y, rfl, ⟨hf, fun d hdv => ?_⟩, by decide, by simp⟩
      by_cases h1 : d = 1
      · exact h1
      · exfalso
        have hd0 : d ≠ 0 := fun z => by
          rw [z] at hdv
          have := Nat.eq_zero_of_zero_dvd hdv
          omega
        by_cases z : (d : Int) < y
        · exact hd d (by omega) z hdv
        · have h3 : d * d ≤ f.natAbs := Nat.le_of_dvd (by omega) hdv
          have h4 := Int.mul_le_mul (a := y) (b := y) (c := (d : Int)) (d := (d : Int)) (by omega) (by omega) (by omega) (by omega)
          rw [← Int.natCast_mul] at h4
          have := absI_eq f
          omega
section
variable {I : Ix} {L : Lib} {fs : List Fn}
theorem e_core [H_lawE_core I L fs] (n c m : Int) (k : Nat) (G : Hh) (hk : 1 ≤ k) (hn : n.natAbs < 1073741824) (h : n = c * (m * m)) (hm : m ≠ 0) (s : Sqf c) : run L fs k I.lawE_core [.int n] G = .ok (.int c) G := by
  obtain ⟨k, rfl⟩ : ∃ m, k = m + 1 := ⟨k - 1, by omega⟩
  rw [run_at (A_lawE_core L) rfl k _ G rfl]
  have hn0 : n ≠ 0 := by rw [h]; exact Int.mul_ne_zero s.1 (Int.mul_ne_zero hm hm)
  obtain ⟨c', m', y', e, s', hm', h'⟩ := wh_core (t := evT L (run L fs k) (.val (.cmp .le (.op .mul (.v 2) (.v 2)) (.bi .abs (.cons (.v 1) .nil))))) (b := exSs L (run L fs k) (.cons (.cond (.val (.cmp .eq (.op .mod (.bi .int (.cons (.v 1) .nil)) (.op .mul (.v 2) (.v 2))) (.int 0))) (.cons (.asg 1 (.op .fdiv (.v 1) (.op .mul (.v 2) (.v 2)))) .nil) (.cons (.asg 2 (.op .add (.v 2) (.int 1))) .nil)) .nil))
    (fun f y => [some (.int n), some (.int f), some (.int y)]) n.natAbs hn (fun f y G h1 h2 _ _ => by
      simp (disch := first | assumption | omega) only [List.map, List.map_cons, List.map_nil, Nat.reduceSub, List.replicate, List.cons_append, List.nil_append, List.append_nil, xs_cons, xs_nil, x_ret, x_asg, x_par, x_unp, x_drop, x_cond, x_loop, x_wh, x_raise1, x_setL, x_setF, x_app, x_try, e_fld, e_meth, e_lstT, g_nm, g_nil, IG.len, e_non, e_bl, e_int, e_str, e_v, e_g, e_op, e_neg, e_cmp, e_chain, e_and, e_or, e_not, e_ife, e_tup, e_lstF, e_ix, e_sl, e_call, e_bi, e_lc, e_isT, e_inG, e_ixG, es_nil, es_cons, es_star, o_no, o_yes, t_yes, t_and, t_or, t_not, t_val, t_tru, i_seq, i_r1, i_r2, i_enum, getS0, getSs, ofO_s, bindOk, bindEx, thnOk, thnEx, sthnNx, sthnRt, sthnEx, noexOk, endK_rt, endK_nx, endK_ex, c_eq_i, c_ne_i, c_eq_s, c_ne_s, c_lt, c_le, c_gt, c_ge, c_isN, c_notN, o_add, o_sub, o_mul, o_mod, o_div, o_addL, o_addT, tru_bl, tru_i, e_callK, e_callV, e_dct, e_mk, x_par3, x_setD, x_raise0, bi_lenT, bi_lenL, bi_min, bi_min2, bi_max2, bi_abs, bi_int, bi_intb, bi_tupL, bi_tupT, bi_lstT, bi_lstL, sl_L, sl_T, isNon, Option.map, List.set, and_self, if_true, if_false, Bool.false_eq_true, Bool.not_true, Bool.not_false, List.length, List.length_cons, List.length_nil, eq_self, Nat.zero_add, Nat.reduceAdd, Nat.reduceLeDiff, Option.bind_some, Option.isSome_some, decide_true, decide_false, List.length_map, seqOf, absI]
      rfl) (fun f y G h1 h2 _ _ h3 h4 h5 => by
      have h6 : (f % (y * y) == 0) = true := by simpa using h5
      simp (disch := first | assumption | omega) only [List.map, List.map_cons, List.map_nil, Nat.reduceSub, List.replicate, List.cons_append, List.nil_append, List.append_nil, xs_cons, xs_nil, x_ret, x_asg, x_par, x_unp, x_drop, x_cond, x_loop, x_wh, x_raise1, x_setL, x_setF, x_app, x_try, e_fld, e_meth, e_lstT, g_nm, g_nil, IG.len, e_non, e_bl, e_int, e_str, e_v, e_g, e_op, e_neg, e_cmp, e_chain, e_and, e_or, e_not, e_ife, e_tup, e_lstF, e_ix, e_sl, e_call, e_bi, e_lc, e_isT, e_inG, e_ixG, es_nil, es_cons, es_star, o_no, o_yes, t_yes, t_and, t_or, t_not, t_val, t_tru, i_seq, i_r1, i_r2, i_enum, getS0, getSs, ofO_s, bindOk, bindEx, thnOk, thnEx, sthnNx, sthnRt, sthnEx, noexOk, endK_rt, endK_nx, endK_ex, c_eq_i, c_ne_i, c_eq_s, c_ne_s, c_lt, c_le, c_gt, c_ge, c_isN, c_notN, o_add, o_sub, o_mul, o_mod, o_div, o_addL, o_addT, tru_bl, tru_i, e_callK, e_callV, e_dct, e_mk, x_par3, x_setD, x_raise0, bi_lenT, bi_lenL, bi_min, bi_min2, bi_max2, bi_abs, bi_int, bi_intb, bi_tupL, bi_tupT, bi_lstT, bi_lstL, sl_L, sl_T, isNon, Option.map, List.set, and_self, if_true, if_false, Bool.false_eq_true, Bool.not_true, Bool.not_false, List.length, List.length_cons, List.length_nil, eq_self, Nat.zero_add, Nat.reduceAdd, Nat.reduceLeDiff, Option.bind_some, Option.isSome_some, decide_true, decide_false, List.length_map, seqOf, h6]) (fun f y G h1 h2 _ _ h3 h4 h5 => by
      have h6 : (f % (y * y) == 0) = false := by simpa using h5
      simp (disch := first | assumption | omega) only [List.map, List.map_cons, List.map_nil, Nat.reduceSub, List.replicate, List.cons_append, List.nil_append, List.append_nil, xs_cons, xs_nil, x_ret, x_asg, x_par, x_unp, x_drop, x_cond, x_loop, x_wh, x_raise1, x_setL, x_setF, x_app, x_try, e_fld, e_meth, e_lstT, g_nm, g_nil, IG.len, e_non, e_bl, e_int, e_str, e_v, e_g, e_op, e_neg, e_cmp, e_chain, e_and, e_or, e_not, e_ife, e_tup, e_lstF, e_ix, e_sl, e_call, e_bi, e_lc, e_isT, e_inG, e_ixG, es_nil, es_cons, es_star, o_no, o_yes, t_yes, t_and, t_or, t_not, t_val, t_tru, i_seq, i_r1, i_r2, i_enum, getS0, getSs, ofO_s, bindOk, bindEx, thnOk, thnEx, sthnNx, sthnRt, sthnEx, noexOk, endK_rt, endK_nx, endK_ex, c_eq_i, c_ne_i, c_eq_s, c_ne_s, c_lt, c_le, c_gt, c_ge, c_isN, c_notN, o_add, o_sub, o_mul, o_mod, o_div, o_addL, o_addT, tru_bl, tru_i, e_callK, e_callV, e_dct, e_mk, x_par3, x_setD, x_raise0, bi_lenT, bi_lenL, bi_min, bi_min2, bi_max2, bi_abs, bi_int, bi_intb, bi_tupL, bi_tupT, bi_lstT, bi_lstL, sl_L, sl_T, isNon, Option.map, List.set, and_self, if_true, if_false, Bool.false_eq_true, Bool.not_true, Bool.not_false, List.length, List.length_cons, List.length_nil, eq_self, Nat.zero_add, Nat.reduceAdd, Nat.reduceLeDiff, Option.bind_some, Option.isSome_some, decide_true, decide_false, List.length_map, seqOf, h6]) G (n.natAbs + 40000) n 2 (by omega) (by omega) hn0 (Nat.le_refl _) (fun d h1 h2 => by omega) (by omega) wfuel (by unfold wfuel; omega)
  have := core_uniq h h' hm hm' s s'
  subst this
  simp (disch := first | assumption | omega) only [List.map, List.map_cons, List.map_nil, Nat.reduceSub, List.replicate, List.cons_append, List.nil_append, List.append_nil, xs_cons, xs_nil, x_ret, x_asg, x_par, x_unp, x_drop, x_cond, x_loop, x_wh, x_raise1, x_setL, x_setF, x_app, x_try, e_fld, e_meth, e_lstT, g_nm, g_nil, IG.len, e_non, e_bl, e_int, e_str, e_v, e_g, e_op, e_neg, e_cmp, e_chain, e_and, e_or, e_not, e_ife, e_tup, e_lstF, e_ix, e_sl, e_call, e_bi, e_lc, e_isT, e_inG, e_ixG, es_nil, es_cons, es_star, o_no, o_yes, t_yes, t_and, t_or, t_not, t_val, t_tru, i_seq, i_r1, i_r2, i_enum, getS0, getSs, ofO_s, bindOk, bindEx, thnOk, thnEx, sthnNx, sthnRt, sthnEx, noexOk, endK_rt, endK_nx, endK_ex, c_eq_i, c_ne_i, c_eq_s, c_ne_s, c_lt, c_le, c_gt, c_ge, c_isN, c_notN, o_add, o_sub, o_mul, o_mod, o_div, o_addL, o_addT, tru_bl, tru_i, e_callK, e_callV, e_dct, e_mk, x_par3, x_setD, x_raise0, bi_lenT, bi_lenL, bi_min, bi_min2, bi_max2, bi_abs, bi_int, bi_intb, bi_tupL, bi_tupT, bi_lstT, bi_lstL, sl_L, sl_T, isNon, Option.map, List.set, and_self, if_true, if_false, Bool.false_eq_true, Bool.not_true, Bool.not_false, List.length, List.length_cons, List.length_nil, eq_self, Nat.zero_add, Nat.reduceAdd, Nat.reduceLeDiff, Option.bind_some, Option.isSome_some, decide_true, decide_false, List.length_map, seqOf, f_lawE_core, b_lawE_core, e]
/-- the product of the sizes of weights -/
def pab (form : List Int) : Nat := (form.map Int.natAbs).foldr (· * ·) 1
theorem pab_app (a b : List Int) : pab (a ++ b) = pab a * pab b := by
  unfold pab
  rw [List.map_append, List.foldr_append]
  generalize (b.map Int.natAbs).foldr (· * ·) 1 = x
  induction a with
  | nil => simp
  | cons y a ih => simp only [List.map_cons, List.foldr_cons, ih, Nat.mul_assoc]
theorem pab_pos : ∀ {form : List Int}, (∀ w ∈ form, w ≠ 0) → 1 ≤ pab form
  | [], _ => by decide
  | w :: r, h => by
    have h1 := pab_pos (form := r) fun x hx => h x (by simp [hx])
    have h2 : w ≠ 0 := h w (by simp)
    show 1 ≤ w.natAbs * pab r
    exact Nat.mul_le_mul (show 1 ≤ w.natAbs by omega) h1
/-- smooth, and small together -/
def Sf (form : List Int) : Prop := (∀ w ∈ form, Smo w) ∧ pab form < 1073741824 ∧ form.length ≤ 1000
theorem Sf.part {form : List Int} (h : Sf form) : (NF.part form).natAbs < 1073741824 := Nat.lt_of_le_of_lt (part_bd form h.1) h.2.1
theorem pab_mem {form : List Int} (h : ∀ w ∈ form, w ≠ 0) {w : Int} (hw : w ∈ form) : w.natAbs ≤ pab form := by
  obtain ⟨a, b, rfl⟩ := List.append_of_mem hw
  rw [pab_app]
  have h1 := pab_pos (form := a) fun x hx => h x (by simp [hx])
  have h2 := pab_pos (form := b) fun x hx => h x (by simp [hx])
  show w.natAbs ≤ pab a * (w.natAbs * pab b)
  calc w.natAbs = 1 * (w.natAbs * 1) := by omega
    _ ≤ _ := Nat.mul_le_mul h1 (Nat.mul_le_mul_left _ h2)
theorem Sf.fm {form : List Int} (h : Sf form) : FmP form :=
  ⟨⟨fun w hw => ⟨(h.1 w hw).1, by have := pab_mem (fun w hw => (h.1 w hw).1) hw; have := h.2.1; omega⟩, h.2.2⟩, by have := h.part; omega⟩
theorem e_part [H_lawE_part I L fs] (form : List Int) (k : Nat) (G : Hh) (hk : 2 ≤ k) (hf : Sf form) : run L fs k I.lawE_part [iT form] G = .ok (.int (part form)) G := by
  obtain ⟨k, rfl⟩ : ∃ m, k = m + 1 := ⟨k - 1, by omega⟩
  rw [run_at (A_lawE_part L) rfl k _ G rfl]
  obtain ⟨ρ', e, y, rfl⟩ := loop_pre (G := G) W.int (fun pre ρ => ∃ y : Option W, ρ = [some (iT form), some (.int (part pre)), y]) form (step := forStep (.nm 2) (exSs L (run L fs k) (.cons (.asg 1 (.call I.lawE_core (.cons (.op .mul (.v 1) (.v 2)) .nil) [])) .nil)))
    (ρ := [some (iT form), some (.int 1), none]) (fun pre w suf ρ hw ⟨y, e⟩ => by
      subst e
      have hwm : w ∈ form := by rw [← hw]; simp
      have hsm := hf.1 w hwm
      obtain ⟨m, hm, e⟩ := part_snoc pre hsm
      have h1 : (part pre * w).natAbs ≤ pab (pre ++ [w]) := by
        rw [Int.natAbs_mul, pab_app]
        show _ ≤ pab pre * (w.natAbs * 1)
        rw [Nat.mul_one]
        exact Nat.mul_le_mul_right _ (part_bd pre fun x hx => hf.1 x (by rw [← hw]; simp [hx]))
      have h2 : pab (pre ++ [w]) ≤ pab form := by
        rw [← hw, show pre ++ w :: suf = (pre ++ [w]) ++ suf by simp, pab_app (pre ++ [w])]
        have := pab_pos (form := suf) fun x hx => (hf.1 x (by rw [← hw]; simp [hx])).1
        calc pab (pre ++ [w]) = pab (pre ++ [w]) * 1 := (Nat.mul_one _).symm
          _ ≤ _ := Nat.mul_le_mul_left _ this
      have h3 := hf.2.1
      have hb := (hf.fm).1.1 w hwm
      have e1 := e_core (I := I) (L := L) (fs := fs) (part pre * w) (part (pre ++ [w])) m k G (by omega) (by omega) e hm (sqf_part _)
      have hpb : (part pre).natAbs ≤ pab pre := part_bd pre fun x hx => hf.1 x (by rw [← hw]; simp [hx])
      have hwb : w.natAbs < 18446744073709551616 := hb.2
      refine ⟨[some (iT form), some (.int (part (pre ++ [w]))), some (.int w)], ?_, _, rfl⟩
      simp (disch := first | assumption | omega) only [List.map, List.map_cons, List.map_nil, Nat.reduceSub, List.replicate, List.cons_append, List.nil_append, List.append_nil, xs_cons, xs_nil, x_ret, x_asg, x_par, x_unp, x_drop, x_cond, x_loop, x_wh, x_raise1, x_setL, x_setF, x_app, x_try, e_fld, e_meth, e_lstT, g_nm, g_nil, IG.len, e_non, e_bl, e_int, e_str, e_v, e_g, e_op, e_neg, e_cmp, e_chain, e_and, e_or, e_not, e_ife, e_tup, e_lstF, e_ix, e_sl, e_call, e_bi, e_lc, e_isT, e_inG, e_ixG, es_nil, es_cons, es_star, o_no, o_yes, t_yes, t_and, t_or, t_not, t_val, t_tru, i_seq, i_r1, i_r2, i_enum, getS0, getSs, ofO_s, bindOk, bindEx, thnOk, thnEx, sthnNx, sthnRt, sthnEx, noexOk, endK_rt, endK_nx, endK_ex, c_eq_i, c_ne_i, c_eq_s, c_ne_s, c_lt, c_le, c_gt, c_ge, c_isN, c_notN, o_add, o_sub, o_mul, o_mod, o_div, o_addL, o_addT, tru_bl, tru_i, e_callK, e_callV, e_dct, e_mk, x_par3, x_setD, x_raise0, bi_lenT, bi_lenL, bi_min, bi_min2, bi_max2, bi_abs, bi_int, bi_intb, bi_tupL, bi_tupT, bi_lstT, bi_lstL, sl_L, sl_T, isNon, Option.map, List.set, and_self, if_true, if_false, Bool.false_eq_true, Bool.not_true, Bool.not_false, List.length, List.length_cons, List.length_nil, eq_self, Nat.zero_add, Nat.reduceAdd, Nat.reduceLeDiff, Option.bind_some, Option.isSome_some, decide_true, decide_false, List.length_map, seqOf, forStep, bindTg, e1]) ⟨none, by rw [part_nil]⟩
  simp (disch := first | assumption | omega) only [List.map, List.map_cons, List.map_nil, Nat.reduceSub, List.replicate, List.cons_append, List.nil_append, List.append_nil, xs_cons, xs_nil, x_ret, x_asg, x_par, x_unp, x_drop, x_cond, x_loop, x_wh, x_raise1, x_setL, x_setF, x_app, x_try, e_fld, e_meth, e_lstT, g_nm, g_nil, IG.len, e_non, e_bl, e_int, e_str, e_v, e_g, e_op, e_neg, e_cmp, e_chain, e_and, e_or, e_not, e_ife, e_tup, e_lstF, e_ix, e_sl, e_call, e_bi, e_lc, e_isT, e_inG, e_ixG, es_nil, es_cons, es_star, o_no, o_yes, t_yes, t_and, t_or, t_not, t_val, t_tru, i_seq, i_r1, i_r2, i_enum, getS0, getSs, ofO_s, bindOk, bindEx, thnOk, thnEx, sthnNx, sthnRt, sthnEx, noexOk, endK_rt, endK_nx, endK_ex, c_eq_i, c_ne_i, c_eq_s, c_ne_s, c_lt, c_le, c_gt, c_ge, c_isN, c_notN, o_add, o_sub, o_mul, o_mod, o_div, o_addL, o_addT, tru_bl, tru_i, e_callK, e_callV, e_dct, e_mk, x_par3, x_setD, x_raise0, bi_lenT, bi_lenL, bi_min, bi_min2, bi_max2, bi_abs, bi_int, bi_intb, bi_tupL, bi_tupT, bi_lstT, bi_lstL, sl_L, sl_T, isNon, Option.map, List.set, and_self, if_true, if_false, Bool.false_eq_true, Bool.not_true, Bool.not_false, List.length, List.length_cons, List.length_nil, eq_self, Nat.zero_add, Nat.reduceAdd, Nat.reduceLeDiff, Option.bind_some, Option.isSome_some, decide_true, decide_false, List.length_map, seqOf, f_lawE_part, b_lawE_part, e]
theorem e_size [H_lawE_size I L fs] (form : List Int) (k : Nat) (G : Hh) (hk : 1 ≤ k) (hl : form.length ≤ 1000) : run L fs k I.lawE_size [iT form] G = .ok (.tup [.int (above form), .int ((negs form : Nat) : Int)]) G := by
  obtain ⟨k, rfl⟩ : ∃ m, k = m + 1 := ⟨k - 1, by omega⟩
  rw [run_at (A_lawE_size L) rfl k _ G rfl]
  have e1 := lc_filt (G := G) (xs := form) W.int (fun w => decide (0 < w)) (step := lcStep [1] (.nm 1) (evT L (run L fs k) (.val (.cmp .gt (.v 1) (.int 0)))) (evE L (run L fs k) (.v 1)) [some (iT form), none]) (fun w _ => by
    cases h : decide (0 < w) <;> simp (disch := first | assumption | omega) only [List.map, List.map_cons, List.map_nil, Nat.reduceSub, List.replicate, List.cons_append, List.nil_append, List.append_nil, xs_cons, xs_nil, x_ret, x_asg, x_par, x_unp, x_drop, x_cond, x_loop, x_wh, x_raise1, x_setL, x_setF, x_app, x_try, e_fld, e_meth, e_lstT, g_nm, g_nil, IG.len, e_non, e_bl, e_int, e_str, e_v, e_g, e_op, e_neg, e_cmp, e_chain, e_and, e_or, e_not, e_ife, e_tup, e_lstF, e_ix, e_sl, e_call, e_bi, e_lc, e_isT, e_inG, e_ixG, es_nil, es_cons, es_star, o_no, o_yes, t_yes, t_and, t_or, t_not, t_val, t_tru, i_seq, i_r1, i_r2, i_enum, getS0, getSs, ofO_s, bindOk, bindEx, thnOk, thnEx, sthnNx, sthnRt, sthnEx, noexOk, endK_rt, endK_nx, endK_ex, c_eq_i, c_ne_i, c_eq_s, c_ne_s, c_lt, c_le, c_gt, c_ge, c_isN, c_notN, o_add, o_sub, o_mul, o_mod, o_div, o_addL, o_addT, tru_bl, tru_i, e_callK, e_callV, e_dct, e_mk, x_par3, x_setD, x_raise0, bi_lenT, bi_lenL, bi_min, bi_min2, bi_max2, bi_abs, bi_int, bi_intb, bi_tupL, bi_tupT, bi_lstT, bi_lstL, sl_L, sl_T, isNon, Option.map, List.set, and_self, if_true, if_false, Bool.false_eq_true, Bool.not_true, Bool.not_false, List.length, List.length_cons, List.length_nil, eq_self, Nat.zero_add, Nat.reduceAdd, Nat.reduceLeDiff, Option.bind_some, Option.isSome_some, decide_true, decide_false, List.length_map, seqOf, lcStep, bindTg, wipeR, h])
  have e2 := lc_filt (G := G) (xs := form) W.int neg (step := lcStep [1] (.nm 1) (evT L (run L fs k) (.val (.cmp .lt (.v 1) (.int 0)))) (evE L (run L fs k) (.v 1)) [some (iT form), none]) (fun w _ => by
    unfold neg
    cases h : decide (w < 0) <;> simp (disch := first | assumption | omega) only [List.map, List.map_cons, List.map_nil, Nat.reduceSub, List.replicate, List.cons_append, List.nil_append, List.append_nil, xs_cons, xs_nil, x_ret, x_asg, x_par, x_unp, x_drop, x_cond, x_loop, x_wh, x_raise1, x_setL, x_setF, x_app, x_try, e_fld, e_meth, e_lstT, g_nm, g_nil, IG.len, e_non, e_bl, e_int, e_str, e_v, e_g, e_op, e_neg, e_cmp, e_chain, e_and, e_or, e_not, e_ife, e_tup, e_lstF, e_ix, e_sl, e_call, e_bi, e_lc, e_isT, e_inG, e_ixG, es_nil, es_cons, es_star, o_no, o_yes, t_yes, t_and, t_or, t_not, t_val, t_tru, i_seq, i_r1, i_r2, i_enum, getS0, getSs, ofO_s, bindOk, bindEx, thnOk, thnEx, sthnNx, sthnRt, sthnEx, noexOk, endK_rt, endK_nx, endK_ex, c_eq_i, c_ne_i, c_eq_s, c_ne_s, c_lt, c_le, c_gt, c_ge, c_isN, c_notN, o_add, o_sub, o_mul, o_mod, o_div, o_addL, o_addT, tru_bl, tru_i, e_callK, e_callV, e_dct, e_mk, x_par3, x_setD, x_raise0, bi_lenT, bi_lenL, bi_min, bi_min2, bi_max2, bi_abs, bi_int, bi_intb, bi_tupL, bi_tupT, bi_lstT, bi_lstL, sl_L, sl_T, isNon, Option.map, List.set, and_self, if_true, if_false, Bool.false_eq_true, Bool.not_true, Bool.not_false, List.length, List.length_cons, List.length_nil, eq_self, Nat.zero_add, Nat.reduceAdd, Nat.reduceLeDiff, Option.bind_some, Option.isSome_some, decide_true, decide_false, List.length_map, seqOf, lcStep, bindTg, wipeR, h])
  have hz : form.length ≤ 1000000 := by omega
  simp (disch := first | assumption | omega) only [List.map, List.map_cons, List.map_nil, Nat.reduceSub, List.replicate, List.cons_append, List.nil_append, List.append_nil, xs_cons, xs_nil, x_ret, x_asg, x_par, x_unp, x_drop, x_cond, x_loop, x_wh, x_raise1, x_setL, x_setF, x_app, x_try, e_fld, e_meth, e_lstT, g_nm, g_nil, IG.len, e_non, e_bl, e_int, e_str, e_v, e_g, e_op, e_neg, e_cmp, e_chain, e_and, e_or, e_not, e_ife, e_tup, e_lstF, e_ix, e_sl, e_call, e_bi, e_lc, e_isT, e_inG, e_ixG, es_nil, es_cons, es_star, o_no, o_yes, t_yes, t_and, t_or, t_not, t_val, t_tru, i_seq, i_r1, i_r2, i_enum, getS0, getSs, ofO_s, bindOk, bindEx, thnOk, thnEx, sthnNx, sthnRt, sthnEx, noexOk, endK_rt, endK_nx, endK_ex, c_eq_i, c_ne_i, c_eq_s, c_ne_s, c_lt, c_le, c_gt, c_ge, c_isN, c_notN, o_add, o_sub, o_mul, o_mod, o_div, o_addL, o_addT, tru_bl, tru_i, e_callK, e_callV, e_dct, e_mk, x_par3, x_setD, x_raise0, bi_lenT, bi_lenL, bi_min, bi_min2, bi_max2, bi_abs, bi_int, bi_intb, bi_tupL, bi_tupT, bi_lstT, bi_lstL, sl_L, sl_T, isNon, Option.map, List.set, and_self, if_true, if_false, Bool.false_eq_true, Bool.not_true, Bool.not_false, List.length, List.length_cons, List.length_nil, eq_self, Nat.zero_add, Nat.reduceAdd, Nat.reduceLeDiff, Option.bind_some, Option.isSome_some, decide_true, decide_false, List.length_map, seqOf, f_lawE_size, b_lawE_size, e1, e2, hz, above, negs]
theorem above_negs {form : List Int} (h : ∀ w ∈ form, w ≠ 0) : above form + ((negs form : Nat) : Int) = ((form.length : Nat) : Int) := by
  unfold above negs neg
  induction form with
  | nil => rfl
  | cons w r ih =>
    have h1 := ih fun x hx => h x (by simp [hx])
    have h0 : w ≠ 0 := h w (by simp)
    rw [List.filter_cons, List.filter_cons]
    by_cases c : 0 < w
    · have c2 : ¬ w < 0 := by omega
      simp only [c, c2, decide_true, decide_false, if_true, List.length_cons, Bool.false_eq_true, if_false]
      omega
    · have c2 : w < 0 := by omega
      simp only [c, c2, decide_true, decide_false, if_true, List.length_cons, Bool.false_eq_true, if_false]
      omega
theorem rowP_take (form : List Int) (p w : Int) : ∀ n : Nat, n ≤ form.length → (List.range n).foldl (fun f j => f * hs w (form.getD j 0) p) 1 = rowP w p (form.take n)
  | 0, _ => by simp [rowP]
  | n + 1, h => by
    rw [List.range_succ, List.foldl_append, rowP_take form p w n (by omega), List.take_succ_eq_append_getElem (by omega)]
    unfold rowP
    rw [List.foldl_append]
    simp only [List.foldl_cons, List.foldl_nil]
    rw [List.getD_eq_getElem?_getD, List.getElem?_eq_getElem (by omega), Option.getD_some]
theorem foldl_scale {α : Type} (g : α → Int) : ∀ (l : List α) (f : Int), l.foldl (fun f j => f * g j) f = f * l.foldl (fun f j => f * g j) 1
  | [], f => by simp
  | x :: l, f => by
    rw [List.foldl_cons, foldl_scale g l, List.foldl_cons, foldl_scale g l (1 * g x), Int.one_mul, Int.mul_assoc]
theorem fs_take (form : List Int) (p : Int) : ∀ n : Nat, n ≤ form.length → (List.range n).foldl (fun f i => f * rowP (form.getD i 0) p (form.take i)) 1 = NF.fs (form.take n) p
  | 0, _ => by simp [NF.fs, fsg]
  | n + 1, h => by
    rw [List.range_succ, List.foldl_append, fs_take form p n (by omega), List.take_succ_eq_append_getElem (by omega), fs_snoc]
    simp only [List.foldl_cons, List.foldl_nil]
    rw [List.getD_eq_getElem?_getD, List.getElem?_eq_getElem (by omega), Option.getD_some]
theorem rowP_pm (w p : Int) (l : List Int) : rowP w p l = 1 ∨ rowP w p l = -1 := foldl_pm w p l 1 (.inl rfl)
theorem ixD {form : List Int} {i : Nat} (h : i < form.length) (G : Hh) : evIx (.tup (form.map .int)) (.int ((i : Nat) : Int)) G = some (.int (form.getD i 0)) := by
  rw [ixT (by simpa using h), List.getElem_map, List.getD_eq_getElem?_getD, List.getElem?_eq_getElem h, Option.getD_some]
theorem getD_mem {form : List Int} {i : Nat} (h : i < form.length) : form.getD i 0 ∈ form := by
  rw [List.getD_eq_getElem?_getD, List.getElem?_eq_getElem h, Option.getD_some]
  exact List.getElem_mem _
theorem range0 (n : Nat) : rangeW 0 n = (List.range n).map fun i => W.int ((i : Nat) : Int) := by
  unfold rangeW
  refine List.map_congr_left fun i _ => ?_
  rw [Int.zero_add]
theorem e_formsign [H_lawE_form_sign I L fs] (form : List Int) (p : Int) (k : Nat) (G : Hh) (hk : 3 ≤ k) (hf : Fm form) (hp : p = 0 ∨ 2 ≤ p) (hp2 : p ≤ 1000) : run L fs k I.lawE_form_sign [iT form, .int p] G = .ok (.int (NF.fs form p)) G := by
  obtain ⟨k, rfl⟩ : ∃ m, k = m + 1 := ⟨k - 1, by omega⟩
  rw [run_at (A_lawE_form_sign L) rfl k _ G rfl]
  have hl := hf.2
  obtain ⟨ρ', e1, y, z, rfl, hq⟩ := loop_fold (G := G) (fun i : Nat => W.int ((i : Nat) : Int)) (fun f ρ => ∃ (y z : Option W), ρ = [some (iT form), some (.int p), some (.int f), y, z] ∧ (f = 1 ∨ f = -1)) (fun f i => f * rowP (form.getD i 0) p (form.take i)) (xs := List.range form.length)
    (step := forStep (.nm 3) (exSs L (run L fs k) (.cons (.loop (.nm 4) (.r1 (.v 3)) (.cons (.asg 2 (.op .mul (.v 2) (.call I.lawE_sign (.cons (.ix (.v 0) (.v 3)) (.cons (.ix (.v 0) (.v 4)) (.cons (.v 1) .nil))) []))) .nil)) .nil)))
    (s := 1) (ρ := [some (iT form), some (.int p), some (.int 1), none, none]) (fun i hi f ρ ⟨y, z, e, hq⟩ => by
      subst e
      have hi := List.mem_range.mp hi
      obtain ⟨w1, w2⟩ := hf.1 _ (getD_mem hi)
      have ix1 := fun G => ixD hi G
      obtain ⟨ρ2, e2, z2, rfl, hq2⟩ := loop_fold (G := G) (fun i : Nat => W.int ((i : Nat) : Int)) (fun f ρ => ∃ (z : Option W), ρ = [some (iT form), some (.int p), some (.int f), some (.int ((i : Nat) : Int)), z] ∧ (f = 1 ∨ f = -1)) (fun f j => f * hs (form.getD i 0) (form.getD j 0) p) (xs := List.range i)
        (step := forStep (.nm 4) (exSs L (run L fs k) (.cons (.asg 2 (.op .mul (.v 2) (.call I.lawE_sign (.cons (.ix (.v 0) (.v 3)) (.cons (.ix (.v 0) (.v 4)) (.cons (.v 1) .nil))) []))) .nil)))
        (s := f) (ρ := [some (iT form), some (.int p), some (.int f), some (.int ((i : Nat) : Int)), z]) (fun j hj f ρ ⟨z, e, hq⟩ => by
          subst e
          have hj := List.mem_range.mp hj
          obtain ⟨u1, u2⟩ := hf.1 _ (getD_mem (show j < form.length by omega))
          have ix2 := fun G => ixD (show j < form.length by omega) G
          refine ⟨[some (iT form), some (.int p), some (.int (f * hs (form.getD i 0) (form.getD j 0) p)), some (.int ((i : Nat) : Int)), some (.int ((j : Nat) : Int))], ?_, _, rfl, pm_mul hq (hs_pm _ _ p)⟩
          simp (disch := first | assumption | omega) only [List.map, List.map_cons, List.map_nil, Nat.reduceSub, List.replicate, List.cons_append, List.nil_append, List.append_nil, xs_cons, xs_nil, x_ret, x_asg, x_par, x_unp, x_drop, x_cond, x_loop, x_wh, x_raise1, x_setL, x_setF, x_app, x_try, e_fld, e_meth, e_lstT, g_nm, g_nil, IG.len, e_non, e_bl, e_int, e_str, e_v, e_g, e_op, e_neg, e_cmp, e_chain, e_and, e_or, e_not, e_ife, e_tup, e_lstF, e_ix, e_sl, e_call, e_bi, e_lc, e_isT, e_inG, e_ixG, es_nil, es_cons, es_star, o_no, o_yes, t_yes, t_and, t_or, t_not, t_val, t_tru, i_seq, i_r1, i_r2, i_enum, getS0, getSs, ofO_s, bindOk, bindEx, thnOk, thnEx, sthnNx, sthnRt, sthnEx, noexOk, endK_rt, endK_nx, endK_ex, c_eq_i, c_ne_i, c_eq_s, c_ne_s, c_lt, c_le, c_gt, c_ge, c_isN, c_notN, o_add, o_sub, o_mul, o_mod, o_div, o_addL, o_addT, tru_bl, tru_i, e_callK, e_callV, e_dct, e_mk, x_par3, x_setD, x_raise0, bi_lenT, bi_lenL, bi_min, bi_min2, bi_max2, bi_abs, bi_int, bi_intb, bi_tupL, bi_tupT, bi_lstT, bi_lstL, sl_L, sl_T, isNon, Option.map, List.set, and_self, if_true, if_false, Bool.false_eq_true, Bool.not_true, Bool.not_false, List.length, List.length_cons, List.length_nil, eq_self, Nat.zero_add, Nat.reduceAdd, Nat.reduceLeDiff, Option.bind_some, Option.isSome_some, decide_true, decide_false, List.length_map, seqOf, forStep, bindTg, ix1, ix2, e_sign]) ⟨z, rfl, hq⟩
      rw [foldl_scale (fun j => hs (form.getD i 0) (form.getD j 0) p), rowP_take form p _ i (by omega)] at e2
      have hr : ((i : Nat) : Int) ≤ 1000000 ∧ -1000000 ≤ ((i : Nat) : Int) := by omega
      refine ⟨[some (iT form), some (.int p), some (.int (f * rowP (form.getD i 0) p (form.take i))), some (.int ((i : Nat) : Int)), z2], ?_, _, _, rfl, pm_mul hq (rowP_pm _ _ _)⟩
      simp (disch := first | assumption | omega) only [List.map, List.map_cons, List.map_nil, Nat.reduceSub, List.replicate, List.cons_append, List.nil_append, List.append_nil, xs_cons, xs_nil, x_ret, x_asg, x_par, x_unp, x_drop, x_cond, x_loop, x_wh, x_raise1, x_setL, x_setF, x_app, x_try, e_fld, e_meth, e_lstT, g_nm, g_nil, IG.len, e_non, e_bl, e_int, e_str, e_v, e_g, e_op, e_neg, e_cmp, e_chain, e_and, e_or, e_not, e_ife, e_tup, e_lstF, e_ix, e_sl, e_call, e_bi, e_lc, e_isT, e_inG, e_ixG, es_nil, es_cons, es_star, o_no, o_yes, t_yes, t_and, t_or, t_not, t_val, t_tru, i_seq, i_r1, i_r2, i_enum, getS0, getSs, ofO_s, bindOk, bindEx, thnOk, thnEx, sthnNx, sthnRt, sthnEx, noexOk, endK_rt, endK_nx, endK_ex, c_eq_i, c_ne_i, c_eq_s, c_ne_s, c_lt, c_le, c_gt, c_ge, c_isN, c_notN, o_add, o_sub, o_mul, o_mod, o_div, o_addL, o_addT, tru_bl, tru_i, e_callK, e_callV, e_dct, e_mk, x_par3, x_setD, x_raise0, bi_lenT, bi_lenL, bi_min, bi_min2, bi_max2, bi_abs, bi_int, bi_intb, bi_tupL, bi_tupT, bi_lstT, bi_lstL, sl_L, sl_T, isNon, Option.map, List.set, and_self, if_true, if_false, Bool.false_eq_true, Bool.not_true, Bool.not_false, List.length, List.length_cons, List.length_nil, eq_self, Nat.zero_add, Nat.reduceAdd, Nat.reduceLeDiff, Option.bind_some, Option.isSome_some, decide_true, decide_false, List.length_map, seqOf, forStep, bindTg, hr, Int.toNat_natCast, range0, e2]) ⟨none, none, rfl, .inl rfl⟩
  have h1 := fs_take form p form.length (Nat.le_refl _)
  rw [List.take_length] at h1
  rw [h1] at e1
  have hr : ((form.length : Nat) : Int) ≤ 1000000 ∧ -1000000 ≤ ((form.length : Nat) : Int) := by omega
  simp (disch := first | assumption | omega) only [List.map, List.map_cons, List.map_nil, Nat.reduceSub, List.replicate, List.cons_append, List.nil_append, List.append_nil, xs_cons, xs_nil, x_ret, x_asg, x_par, x_unp, x_drop, x_cond, x_loop, x_wh, x_raise1, x_setL, x_setF, x_app, x_try, e_fld, e_meth, e_lstT, g_nm, g_nil, IG.len, e_non, e_bl, e_int, e_str, e_v, e_g, e_op, e_neg, e_cmp, e_chain, e_and, e_or, e_not, e_ife, e_tup, e_lstF, e_ix, e_sl, e_call, e_bi, e_lc, e_isT, e_inG, e_ixG, es_nil, es_cons, es_star, o_no, o_yes, t_yes, t_and, t_or, t_not, t_val, t_tru, i_seq, i_r1, i_r2, i_enum, getS0, getSs, ofO_s, bindOk, bindEx, thnOk, thnEx, sthnNx, sthnRt, sthnEx, noexOk, endK_rt, endK_nx, endK_ex, c_eq_i, c_ne_i, c_eq_s, c_ne_s, c_lt, c_le, c_gt, c_ge, c_isN, c_notN, o_add, o_sub, o_mul, o_mod, o_div, o_addL, o_addT, tru_bl, tru_i, e_callK, e_callV, e_dct, e_mk, x_par3, x_setD, x_raise0, bi_lenT, bi_lenL, bi_min, bi_min2, bi_max2, bi_abs, bi_int, bi_intb, bi_tupL, bi_tupT, bi_lstT, bi_lstL, sl_L, sl_T, isNon, Option.map, List.set, and_self, if_true, if_false, Bool.false_eq_true, Bool.not_true, Bool.not_false, List.length, List.length_cons, List.length_nil, eq_self, Nat.zero_add, Nat.reduceAdd, Nat.reduceLeDiff, Option.bind_some, Option.isSome_some, decide_true, decide_false, List.length_map, seqOf, f_lawE_form_sign, b_lawE_form_sign, hr, Int.toNat_natCast, range0, e1]
end
end PI
end

section
set_option autoImplicit false
set_option maxHeartbeats 2000000
/-! S6: family E's own places, bars, noughts. -/
namespace PI
open PySem (Str PyData)
open NF
/-! ### a dict with True at whole numbers -/
def kD (ks : List Int) : Cell := .dct (ks.map Sum.inl) (ks.map fun _ => .bl true)
def addK (ks : List Int) (p : Int) : List Int := if p ∈ ks then ks else ks ++ [p]
theorem any_inl (p : Int) (ks : List Int) : ((ks.map Sum.inl).any fun j => decide (j = (Sum.inl p : L2.Key))) = decide (p ∈ ks) := by
  rw [Bool.eq_iff_iff, List.any_eq_true, decide_eq_true_eq]
  constructor
  · intro ⟨x, hx, h⟩
    obtain ⟨y, hy, rfl⟩ := List.mem_map.mp hx
    have h := of_decide_eq_true h
    cases h
    exact hy
  · intro h
    exact ⟨_, List.mem_map_of_mem h, decide_eq_true rfl⟩
theorem putX_true (k : L2.Key) : ∀ (ks : List L2.Key) (n : Nat), ks.length = n → putX k (.bl true) ks (List.replicate n (.bl true)) = List.replicate n (.bl true)
  | [], _, h => by subst h; rfl
  | j :: ks, n, h => by
    subst h
    rw [List.length_cons, List.replicate_succ, putX, putX_true k ks ks.length rfl]
    split <;> rfl
theorem map_rep (ks : List Int) : (ks.map fun _ => W.bl true) = List.replicate ks.length (.bl true) := by
  induction ks with
  | nil => rfl
  | cons k ks ih => rw [List.map_cons, ih]; rfl
theorem set_kD (G X : Hh) (ks : List Int) (p : Int) (ρ : Rho) (h : ks.length < 1000000) : evSetD (.ref G.length) (.int p) (.bl true) ρ (G ++ [kD ks]) = .nx ρ (G ++ [kD (addK ks p)]) := by
  have hd : dctOf (.ref G.length) (G ++ [kD ks]) = some (ks.map Sum.inl, ks.map fun _ => .bl true) := by simp [dctOf, kD]
  simp only [evSetD, hd, keyOf, List.length_map, if_pos h]
  congr 1
  rw [List.set_append_right _ _ (Nat.le_refl _), Nat.sub_self]
  simp only [List.set_cons_zero]
  congr 2
  unfold kD putKs putXs addK
  rw [any_inl]
  by_cases c : p ∈ ks
  · simp only [c, decide_true, if_true, map_rep]
    rw [putX_true _ _ _ (by simp)]
  · simp only [c, decide_false, Bool.false_eq_true, if_false, List.map_append, List.map_cons, List.map_nil]
theorem list_kD (G : Hh) (ks : List Int) : evBi .listD [.ref G.length] (G ++ [kD ks]) = some (.lst (ks.map .int)) := by
  have hd : dctOf (.ref G.length) (G ++ [kD ks]) = some (ks.map Sum.inl, ks.map fun _ => .bl true) := by simp [dctOf, kD]
  simp only [evBi, ev1, hd, Option.map, List.map_map]
  rfl
theorem addK_fold (q : Int → Bool) : ∀ (l ks : List Int), l.Nodup → (∀ p ∈ l, p ∉ ks) → l.foldl (fun ks p => if q p = true then addK ks p else ks) ks = ks ++ l.filter q
  | [], ks, _, _ => by simp
  | p :: l, ks, hn, h => by
    rw [List.foldl_cons, List.filter_cons]
    have hn' := List.nodup_cons.mp hn
    cases c : q p
    · rw [if_neg Bool.false_ne_true, if_neg Bool.false_ne_true]
      exact addK_fold q l ks hn'.2 fun x hx => h x (by simp [hx])
    · have hp : p ∉ ks := h p (by simp)
      rw [if_pos rfl, if_pos rfl]
      have e : addK ks p = ks ++ [p] := if_neg hp
      rw [e, addK_fold q l _ hn'.2 fun x hx z => ?_]
      · simp
      · rcases List.mem_append.mp z with z | z
        · exact h x (by simp [hx]) z
        · have : x = p := by simpa using z
          exact hn'.1 (this ▸ hx)
def dvs (form : List Int) (p : Int) : Bool := (form.map fun w => w % p == 0).any id
theorem keys_plc (form : List Int) : prs.foldl (fun ks p => if dvs form p = true then addK ks p else ks) [0, 2] = 0 :: plc form := by
  have e : prs = 2 :: prs.tail := rfl
  have hn : prs.tail.Nodup := by decide
  have hd : ∀ p ∈ prs.tail, p ∉ [(0 : Int), 2] := by decide
  have ht : ∀ p ∈ prs.tail, (p == 2) = false := by decide
  unfold plc
  rw [e, List.foldl_cons, List.filter_cons]
  have h0 : (if dvs form 2 = true then addK [0, 2] 2 else [0, 2]) = [0, 2] := by
    split
    · decide
    · rfl
  rw [h0, addK_fold _ _ _ hn hd]
  have h2 : ((2 : Int) == 2 || (form.map fun w => w % 2 == 0).any id) = true := by simp
  rw [if_pos h2]
  show 0 :: 2 :: prs.tail.filter (dvs form) = _
  congr 2
theorem plc_sorted (form : List Int) : (0 :: plc form).Pairwise (· ≤ ·) := by
  have h : (0 :: prs).Pairwise (· ≤ ·) := by decide
  exact h.sublist (List.Sublist.cons_cons 0 List.filter_sublist)
theorem plc_len (form : List Int) : (0 :: plc form).length ≤ 26 := by
  have h25 : prs.length = 25 := by decide
  have : (plc form).length ≤ prs.length := List.length_filter_le _ _
  rw [List.length_cons]; omega
theorem filt_empty {α : Type} (p : α → Bool) (l : List α) : (l.filter p).isEmpty = !l.any p := by
  induction l with
  | nil => rfl
  | cons x l ih =>
    rw [List.filter_cons, List.any_cons]
    cases p x <;> simp [ih]
theorem any_map {α : Type} (p : α → Bool) (l : List α) : (l.map p).any id = l.any p := by rw [List.any_map]; rfl
theorem all_map {α : Type} (p : α → Bool) (l : List α) : (l.map p).all id = l.all p := by rw [List.all_map]; rfl
section
variable {I : Ix} {L : Lib} {fs : List Fn}
theorem e_places [H_lawE_places I L fs] (form : List Int) (k : Nat) (G : Hh) (hk : 2 ≤ k) (hl : form.length ≤ 1000) : run L fs k I.lawE_places [iT form] G = .ok (iL (0 :: plc form)) G := by
  obtain ⟨k, rfl⟩ : ∃ m, k = m + 1 := ⟨k - 1, by omega⟩
  have hz : form.length ≤ 1000000 := by omega
  obtain ⟨ρ', G', e, ks, y, z, rfl, rfl, hks, _⟩ := loop_pg W.int (fun pre ρ G' => ∃ (ks : List Int) (y z : Option W), ρ = [some (iT form), some (.ref G.length), y, z] ∧ G' = G ++ [kD ks] ∧ ks = pre.foldl (fun ks p => if dvs form p = true then addK ks p else ks) [0, 2] ∧ ks.length ≤ 2 + pre.length) prs
    (step := forStep (.nm 2) (exSs L (run L fs k) (.cons (.cond (.val (.cmp .ne (.lc [3] (.nm 3) (.seq (.v 0)) (.val (.cmp .eq (.op .mod (.bi .int (.cons (.v 3) .nil)) (.v 2)) (.int 0))) (.v 3)) (.lst false .nil))) (.cons (.setD (.v 1) (.v 2) (.bl true)) .nil) .nil) .nil)))
    (fun pre p suf ρ G1 hw ⟨ks, y, z, e1, e2, hks, hkl⟩ => by
      subst e1
      subst e2
      have hpm : p ∈ prs := by rw [← hw]; simp
      have hpb := prs_bd p hpm
      have h25 : prs.length = 25 := by decide
      have hpl : pre.length < 25 := by
        rw [← hw, List.length_append, List.length_cons] at h25
        omega
      have e := lc_filt (G := G ++ [kD ks]) (xs := form) W.int (fun w => w % p == 0) (step := lcStep [3] (.nm 3) (evT L (run L fs k) (.val (.cmp .eq (.op .mod (.bi .int (.cons (.v 3) .nil)) (.v 2)) (.int 0)))) (evE L (run L fs k) (.v 3)) [some (iT form), some (.ref G.length), some (.int p), z]) (fun w _ => by
        cases h : (w % p == 0) <;> simp (disch := first | assumption | omega) only [List.map, List.map_cons, List.map_nil, Nat.reduceSub, List.replicate, List.cons_append, List.nil_append, List.append_nil, xs_cons, xs_nil, x_ret, x_asg, x_par, x_unp, x_drop, x_cond, x_loop, x_wh, x_raise1, x_setL, x_setF, x_app, x_try, e_fld, e_meth, e_lstT, g_nm, g_nil, IG.len, e_non, e_bl, e_int, e_str, e_v, e_g, e_op, e_neg, e_cmp, e_chain, e_and, e_or, e_not, e_ife, e_tup, e_lstF, e_ix, e_sl, e_call, e_bi, e_lc, e_isT, e_inG, e_ixG, es_nil, es_cons, es_star, o_no, o_yes, t_yes, t_and, t_or, t_not, t_val, t_tru, i_seq, i_r1, i_r2, i_enum, getS0, getSs, ofO_s, bindOk, bindEx, thnOk, thnEx, sthnNx, sthnRt, sthnEx, noexOk, endK_rt, endK_nx, endK_ex, c_eq_i, c_ne_i, c_eq_s, c_ne_s, c_lt, c_le, c_gt, c_ge, c_isN, c_notN, o_add, o_sub, o_mul, o_mod, o_div, o_addL, o_addT, tru_bl, tru_i, e_callK, e_callV, e_dct, e_mk, x_par3, x_setD, x_raise0, bi_lenT, bi_lenL, bi_min, bi_min2, bi_max2, bi_abs, bi_int, bi_intb, bi_tupL, bi_tupT, bi_lstT, bi_lstL, sl_L, sl_T, isNon, Option.map, List.set, and_self, if_true, if_false, Bool.false_eq_true, Bool.not_true, Bool.not_false, List.length, List.length_cons, List.length_nil, eq_self, Nat.zero_add, Nat.reduceAdd, Nat.reduceLeDiff, Option.bind_some, Option.isSome_some, decide_true, decide_false, List.length_map, seqOf, lcStep, bindTg, wipeR, h])
      have hd : (form.filter fun w => w % p == 0).isEmpty = !dvs form p := by
        rw [filt_empty]
        unfold dvs
        rw [any_map]
      have hs := fun (ρ : Rho) => set_kD G [] ks p ρ (by omega)
      refine ⟨[some (iT form), some (.ref G.length), some (.int p), z], G ++ [kD (if dvs form p = true then addK ks p else ks)], ?_, _, _, _, rfl, rfl, by rw [List.foldl_append, ← hks]; rfl, ?_⟩
      · cases h : dvs form p <;> (rw [h] at hd; simp (disch := first | assumption | omega) only [List.map, List.map_cons, List.map_nil, Nat.reduceSub, List.replicate, List.cons_append, List.nil_append, List.append_nil, xs_cons, xs_nil, x_ret, x_asg, x_par, x_unp, x_drop, x_cond, x_loop, x_wh, x_raise1, x_setL, x_setF, x_app, x_try, e_fld, e_meth, e_lstT, g_nm, g_nil, IG.len, e_non, e_bl, e_int, e_str, e_v, e_g, e_op, e_neg, e_cmp, e_chain, e_and, e_or, e_not, e_ife, e_tup, e_lstF, e_ix, e_sl, e_call, e_bi, e_lc, e_isT, e_inG, e_ixG, es_nil, es_cons, es_star, o_no, o_yes, t_yes, t_and, t_or, t_not, t_val, t_tru, i_seq, i_r1, i_r2, i_enum, getS0, getSs, ofO_s, bindOk, bindEx, thnOk, thnEx, sthnNx, sthnRt, sthnEx, noexOk, endK_rt, endK_nx, endK_ex, c_eq_i, c_ne_i, c_eq_s, c_ne_s, c_lt, c_le, c_gt, c_ge, c_isN, c_notN, o_add, o_sub, o_mul, o_mod, o_div, o_addL, o_addT, tru_bl, tru_i, e_callK, e_callV, e_dct, e_mk, x_par3, x_setD, x_raise0, bi_lenT, bi_lenL, bi_min, bi_min2, bi_max2, bi_abs, bi_int, bi_intb, bi_tupL, bi_tupT, bi_lstT, bi_lstL, sl_L, sl_T, isNon, Option.map, List.set, and_self, if_true, if_false, Bool.false_eq_true, Bool.not_true, Bool.not_false, List.length, List.length_cons, List.length_nil, eq_self, Nat.zero_add, Nat.reduceAdd, Nat.reduceLeDiff, Option.bind_some, Option.isSome_some, decide_true, decide_false, List.length_map, seqOf, forStep, bindTg, e, hz, c_neL0, hd, hs])
      · rw [List.length_append, List.length_cons, List.length_nil]
        split
        · unfold addK
          split
          · omega
          · rw [List.length_append, List.length_cons, List.length_nil]; omega
        · omega) prs [] [some (iT form), some (.ref G.length), none, none] (G ++ [kD [0, 2]]) (by simp) ⟨[0, 2], none, none, rfl, rfl, rfl, by simp⟩
  rw [keys_plc] at hks
  subst hks
  refine run_atF (A_lawE_places L) rfl k _ G rfl (X := [kD (0 :: plc form)]) ?_ ?_
  · have hk2 : ([.dct [.inl 0, .inl 2] [.bl true, .bl true]] : Hh) = [kD [0, 2]] := rfl
    have hsrt := sortI_id (plc_sorted form)
    generalize 0 :: plc form = pl at *
    simp (disch := first | assumption | omega) only [List.map, List.map_cons, List.map_nil, Nat.reduceSub, List.replicate, List.cons_append, List.nil_append, List.append_nil, xs_cons, xs_nil, x_ret, x_asg, x_par, x_unp, x_drop, x_cond, x_loop, x_wh, x_raise1, x_setL, x_setF, x_app, x_try, e_fld, e_meth, e_lstT, g_nm, g_nil, IG.len, e_non, e_bl, e_int, e_str, e_v, e_g, e_op, e_neg, e_cmp, e_chain, e_and, e_or, e_not, e_ife, e_tup, e_lstF, e_ix, e_sl, e_call, e_bi, e_lc, e_isT, e_inG, e_ixG, es_nil, es_cons, es_star, o_no, o_yes, t_yes, t_and, t_or, t_not, t_val, t_tru, i_seq, i_r1, i_r2, i_enum, getS0, getSs, ofO_s, bindOk, bindEx, thnOk, thnEx, sthnNx, sthnRt, sthnEx, noexOk, endK_rt, endK_nx, endK_ex, c_eq_i, c_ne_i, c_eq_s, c_ne_s, c_lt, c_le, c_gt, c_ge, c_isN, c_notN, o_add, o_sub, o_mul, o_mod, o_div, o_addL, o_addT, tru_bl, tru_i, e_callK, e_callV, e_dct, e_mk, x_par3, x_setD, x_raise0, bi_lenT, bi_lenL, bi_min, bi_min2, bi_max2, bi_abs, bi_int, bi_intb, bi_tupL, bi_tupT, bi_lstT, bi_lstL, sl_L, sl_T, isNon, Option.map, List.set, and_self, if_true, if_false, Bool.false_eq_true, Bool.not_true, Bool.not_false, List.length, List.length_cons, List.length_nil, eq_self, Nat.zero_add, Nat.reduceAdd, Nat.reduceLeDiff, Option.bind_some, Option.isSome_some, decide_true, decide_false, List.length_map, seqOf, f_lawE_places, b_lawE_places, hk2, e_primes, e, list_kD, bi_sorted, hsrt]
  · generalize 0 :: plc form = l
    unfold iL
    simp only [W.blw]
    induction l with
    | nil => rfl
    | cons x l ih => simp [W.blws, W.blw, ih]
theorem notin2 (a b : Int) (G : Hh) : evCmp .notIn (.int 0) (.tup [.int a, .int b]) G = some (!((a == 0) || (b == 0))) := by
  simp [evCmp, seqOf, flatW, inW, eqW]
theorem least_pos {form : List Int} (h : ∀ w ∈ form, w ≠ 0) : (!((above form == 0) || (((negs form : Nat) : Int) == 0))) = decide (0 < least form) := by
  have h1 := above_negs h
  have h2 : 0 ≤ above form := by unfold above; omega
  unfold least
  generalize above form = a at *
  have h3 : 0 ≤ ((negs form : Nat) : Int) := by omega
  generalize ((negs form : Nat) : Int) = b at *
  generalize ((form.length : Nat) : Int) = c at *
  by_cases ha : a = 0
  · subst ha
    have : ¬ (0 < if c - 0 < 0 then c - 0 else 0) := by split <;> omega
    rw [decide_eq_false this]
    simp
  · by_cases hb : b = 0
    · subst hb
      have : ¬ (0 < if c - a < a then c - a else a) := by split <;> omega
      rw [decide_eq_false this]
      simp
    · by_cases hb2 : 0 < b
      · have : 0 < if c - a < a then c - a else a := by split <;> omega
        rw [decide_eq_true this]
        simp [ha, hb]
      · omega
theorem e_noughtat [H_lawE_nought_at I L fs] (form : List Int) (p : Int) (k : Nat) (G : Hh) (hk : 4 ≤ k) (hf : Sf form) (hp : p = 0 ∨ 2 ≤ p) (hp2 : p ≤ 1000) :
    run L fs k I.lawE_nought_at [iT form, .int p] G = .ok (.bl (givesW form (part form) p)) G := by
  obtain ⟨k, rfl⟩ : ∃ m, k = m + 1 := ⟨k - 1, by omega⟩
  rw [run_at (A_lawE_nought_at L) rfl k _ G rfl]
  have hfm := hf.fm
  have hfm1 := hfm.1
  have hl := hfm.1.2
  have hd := part_ne form
  have hd2 := hfm.2
  have hnz : ∀ w ∈ form, w ≠ 0 := fun w hw => (hf.1 w hw).1
  unfold givesW
  cases h0 : (p == 0)
  · cases h1 : (decide (((form.length : Nat) : Int) < 2))
    · cases h3 : (((form.length : Nat) : Int) == 2)
      · cases h4 : (((form.length : Nat) : Int) == 3)
        · cases h2 : (decide (4 < ((form.length : Nat) : Int)))
          · cases h5 : isq (part form) p <;> simp (disch := first | assumption | omega) only [List.map, List.map_cons, List.map_nil, Nat.reduceSub, List.replicate, List.cons_append, List.nil_append, List.append_nil, xs_cons, xs_nil, x_ret, x_asg, x_par, x_unp, x_drop, x_cond, x_loop, x_wh, x_raise1, x_setL, x_setF, x_app, x_try, e_fld, e_meth, e_lstT, g_nm, g_nil, IG.len, e_non, e_bl, e_int, e_str, e_v, e_g, e_op, e_neg, e_cmp, e_chain, e_and, e_or, e_not, e_ife, e_tup, e_lstF, e_ix, e_sl, e_call, e_bi, e_lc, e_isT, e_inG, e_ixG, es_nil, es_cons, es_star, o_no, o_yes, t_yes, t_and, t_or, t_not, t_val, t_tru, i_seq, i_r1, i_r2, i_enum, getS0, getSs, ofO_s, bindOk, bindEx, thnOk, thnEx, sthnNx, sthnRt, sthnEx, noexOk, endK_rt, endK_nx, endK_ex, c_eq_i, c_ne_i, c_eq_s, c_ne_s, c_lt, c_le, c_gt, c_ge, c_isN, c_notN, o_add, o_sub, o_mul, o_mod, o_div, o_addL, o_addT, tru_bl, tru_i, e_callK, e_callV, e_dct, e_mk, x_par3, x_setD, x_raise0, bi_lenT, bi_lenL, bi_min, bi_min2, bi_max2, bi_abs, bi_int, bi_intb, bi_tupL, bi_tupT, bi_lstT, bi_lstL, sl_L, sl_T, isNon, Option.map, List.set, and_self, if_true, if_false, Bool.false_eq_true, Bool.not_true, Bool.not_false, List.length, List.length_cons, List.length_nil, eq_self, Nat.zero_add, Nat.reduceAdd, Nat.reduceLeDiff, Option.bind_some, Option.isSome_some, decide_true, decide_false, List.length_map, seqOf, f_lawE_nought_at, b_lawE_nought_at, h0, h1, h2, h3, h4, h5, Bool.or_self, e_part, e_formsign, e_square, e_sign]
          · simp (disch := first | assumption | omega) only [List.map, List.map_cons, List.map_nil, Nat.reduceSub, List.replicate, List.cons_append, List.nil_append, List.append_nil, xs_cons, xs_nil, x_ret, x_asg, x_par, x_unp, x_drop, x_cond, x_loop, x_wh, x_raise1, x_setL, x_setF, x_app, x_try, e_fld, e_meth, e_lstT, g_nm, g_nil, IG.len, e_non, e_bl, e_int, e_str, e_v, e_g, e_op, e_neg, e_cmp, e_chain, e_and, e_or, e_not, e_ife, e_tup, e_lstF, e_ix, e_sl, e_call, e_bi, e_lc, e_isT, e_inG, e_ixG, es_nil, es_cons, es_star, o_no, o_yes, t_yes, t_and, t_or, t_not, t_val, t_tru, i_seq, i_r1, i_r2, i_enum, getS0, getSs, ofO_s, bindOk, bindEx, thnOk, thnEx, sthnNx, sthnRt, sthnEx, noexOk, endK_rt, endK_nx, endK_ex, c_eq_i, c_ne_i, c_eq_s, c_ne_s, c_lt, c_le, c_gt, c_ge, c_isN, c_notN, o_add, o_sub, o_mul, o_mod, o_div, o_addL, o_addT, tru_bl, tru_i, e_callK, e_callV, e_dct, e_mk, x_par3, x_setD, x_raise0, bi_lenT, bi_lenL, bi_min, bi_min2, bi_max2, bi_abs, bi_int, bi_intb, bi_tupL, bi_tupT, bi_lstT, bi_lstL, sl_L, sl_T, isNon, Option.map, List.set, and_self, if_true, if_false, Bool.false_eq_true, Bool.not_true, Bool.not_false, List.length, List.length_cons, List.length_nil, eq_self, Nat.zero_add, Nat.reduceAdd, Nat.reduceLeDiff, Option.bind_some, Option.isSome_some, decide_true, decide_false, List.length_map, seqOf, f_lawE_nought_at, b_lawE_nought_at, h0, h1, h2, h3, h4, Bool.or_true, e_part, e_formsign]
        · have h2 : decide (4 < ((form.length : Nat) : Int)) = false := by
            have := eq_of_beq h4
            exact decide_eq_false (by omega)
          simp (disch := first | assumption | omega) only [List.map, List.map_cons, List.map_nil, Nat.reduceSub, List.replicate, List.cons_append, List.nil_append, List.append_nil, xs_cons, xs_nil, x_ret, x_asg, x_par, x_unp, x_drop, x_cond, x_loop, x_wh, x_raise1, x_setL, x_setF, x_app, x_try, e_fld, e_meth, e_lstT, g_nm, g_nil, IG.len, e_non, e_bl, e_int, e_str, e_v, e_g, e_op, e_neg, e_cmp, e_chain, e_and, e_or, e_not, e_ife, e_tup, e_lstF, e_ix, e_sl, e_call, e_bi, e_lc, e_isT, e_inG, e_ixG, es_nil, es_cons, es_star, o_no, o_yes, t_yes, t_and, t_or, t_not, t_val, t_tru, i_seq, i_r1, i_r2, i_enum, getS0, getSs, ofO_s, bindOk, bindEx, thnOk, thnEx, sthnNx, sthnRt, sthnEx, noexOk, endK_rt, endK_nx, endK_ex, c_eq_i, c_ne_i, c_eq_s, c_ne_s, c_lt, c_le, c_gt, c_ge, c_isN, c_notN, o_add, o_sub, o_mul, o_mod, o_div, o_addL, o_addT, tru_bl, tru_i, e_callK, e_callV, e_dct, e_mk, x_par3, x_setD, x_raise0, bi_lenT, bi_lenL, bi_min, bi_min2, bi_max2, bi_abs, bi_int, bi_intb, bi_tupL, bi_tupT, bi_lstT, bi_lstL, sl_L, sl_T, isNon, Option.map, List.set, and_self, if_true, if_false, Bool.false_eq_true, Bool.not_true, Bool.not_false, List.length, List.length_cons, List.length_nil, eq_self, Nat.zero_add, Nat.reduceAdd, Nat.reduceLeDiff, Option.bind_some, Option.isSome_some, decide_true, decide_false, List.length_map, seqOf, f_lawE_nought_at, b_lawE_nought_at, h0, h1, h2, h3, h4, Bool.or_self, e_part, e_formsign, e_sign]
      · have h2 : decide (4 < ((form.length : Nat) : Int)) = false := by
          have := eq_of_beq h3
          exact decide_eq_false (by omega)
        simp (disch := first | assumption | omega) only [List.map, List.map_cons, List.map_nil, Nat.reduceSub, List.replicate, List.cons_append, List.nil_append, List.append_nil, xs_cons, xs_nil, x_ret, x_asg, x_par, x_unp, x_drop, x_cond, x_loop, x_wh, x_raise1, x_setL, x_setF, x_app, x_try, e_fld, e_meth, e_lstT, g_nm, g_nil, IG.len, e_non, e_bl, e_int, e_str, e_v, e_g, e_op, e_neg, e_cmp, e_chain, e_and, e_or, e_not, e_ife, e_tup, e_lstF, e_ix, e_sl, e_call, e_bi, e_lc, e_isT, e_inG, e_ixG, es_nil, es_cons, es_star, o_no, o_yes, t_yes, t_and, t_or, t_not, t_val, t_tru, i_seq, i_r1, i_r2, i_enum, getS0, getSs, ofO_s, bindOk, bindEx, thnOk, thnEx, sthnNx, sthnRt, sthnEx, noexOk, endK_rt, endK_nx, endK_ex, c_eq_i, c_ne_i, c_eq_s, c_ne_s, c_lt, c_le, c_gt, c_ge, c_isN, c_notN, o_add, o_sub, o_mul, o_mod, o_div, o_addL, o_addT, tru_bl, tru_i, e_callK, e_callV, e_dct, e_mk, x_par3, x_setD, x_raise0, bi_lenT, bi_lenL, bi_min, bi_min2, bi_max2, bi_abs, bi_int, bi_intb, bi_tupL, bi_tupT, bi_lstT, bi_lstL, sl_L, sl_T, isNon, Option.map, List.set, and_self, if_true, if_false, Bool.false_eq_true, Bool.not_true, Bool.not_false, List.length, List.length_cons, List.length_nil, eq_self, Nat.zero_add, Nat.reduceAdd, Nat.reduceLeDiff, Option.bind_some, Option.isSome_some, decide_true, decide_false, List.length_map, seqOf, f_lawE_nought_at, b_lawE_nought_at, h0, h1, h2, h3, Bool.or_self, e_part, e_formsign, e_square]
    · have h2 : decide (4 < ((form.length : Nat) : Int)) = false := by
        have := of_decide_eq_true h1
        exact decide_eq_false (by omega)
      simp (disch := first | assumption | omega) only [List.map, List.map_cons, List.map_nil, Nat.reduceSub, List.replicate, List.cons_append, List.nil_append, List.append_nil, xs_cons, xs_nil, x_ret, x_asg, x_par, x_unp, x_drop, x_cond, x_loop, x_wh, x_raise1, x_setL, x_setF, x_app, x_try, e_fld, e_meth, e_lstT, g_nm, g_nil, IG.len, e_non, e_bl, e_int, e_str, e_v, e_g, e_op, e_neg, e_cmp, e_chain, e_and, e_or, e_not, e_ife, e_tup, e_lstF, e_ix, e_sl, e_call, e_bi, e_lc, e_isT, e_inG, e_ixG, es_nil, es_cons, es_star, o_no, o_yes, t_yes, t_and, t_or, t_not, t_val, t_tru, i_seq, i_r1, i_r2, i_enum, getS0, getSs, ofO_s, bindOk, bindEx, thnOk, thnEx, sthnNx, sthnRt, sthnEx, noexOk, endK_rt, endK_nx, endK_ex, c_eq_i, c_ne_i, c_eq_s, c_ne_s, c_lt, c_le, c_gt, c_ge, c_isN, c_notN, o_add, o_sub, o_mul, o_mod, o_div, o_addL, o_addT, tru_bl, tru_i, e_callK, e_callV, e_dct, e_mk, x_par3, x_setD, x_raise0, bi_lenT, bi_lenL, bi_min, bi_min2, bi_max2, bi_abs, bi_int, bi_intb, bi_tupL, bi_tupT, bi_lstT, bi_lstL, sl_L, sl_T, isNon, Option.map, List.set, and_self, if_true, if_false, Bool.false_eq_true, Bool.not_true, Bool.not_false, List.length, List.length_cons, List.length_nil, eq_self, Nat.zero_add, Nat.reduceAdd, Nat.reduceLeDiff, Option.bind_some, Option.isSome_some, decide_true, decide_false, List.length_map, seqOf, f_lawE_nought_at, b_lawE_nought_at, h0, h1, h2, Bool.true_or, e_part, e_formsign]
  · have hlp := least_pos hnz
    simp (disch := first | assumption | omega) only [List.map, List.map_cons, List.map_nil, Nat.reduceSub, List.replicate, List.cons_append, List.nil_append, List.append_nil, xs_cons, xs_nil, x_ret, x_asg, x_par, x_unp, x_drop, x_cond, x_loop, x_wh, x_raise1, x_setL, x_setF, x_app, x_try, e_fld, e_meth, e_lstT, g_nm, g_nil, IG.len, e_non, e_bl, e_int, e_str, e_v, e_g, e_op, e_neg, e_cmp, e_chain, e_and, e_or, e_not, e_ife, e_tup, e_lstF, e_ix, e_sl, e_call, e_bi, e_lc, e_isT, e_inG, e_ixG, es_nil, es_cons, es_star, o_no, o_yes, t_yes, t_and, t_or, t_not, t_val, t_tru, i_seq, i_r1, i_r2, i_enum, getS0, getSs, ofO_s, bindOk, bindEx, thnOk, thnEx, sthnNx, sthnRt, sthnEx, noexOk, endK_rt, endK_nx, endK_ex, c_eq_i, c_ne_i, c_eq_s, c_ne_s, c_lt, c_le, c_gt, c_ge, c_isN, c_notN, o_add, o_sub, o_mul, o_mod, o_div, o_addL, o_addT, tru_bl, tru_i, e_callK, e_callV, e_dct, e_mk, x_par3, x_setD, x_raise0, bi_lenT, bi_lenL, bi_min, bi_min2, bi_max2, bi_abs, bi_int, bi_intb, bi_tupL, bi_tupT, bi_lstT, bi_lstL, sl_L, sl_T, isNon, Option.map, List.set, and_self, if_true, if_false, Bool.false_eq_true, Bool.not_true, Bool.not_false, List.length, List.length_cons, List.length_nil, eq_self, Nat.zero_add, Nat.reduceAdd, Nat.reduceLeDiff, Option.bind_some, Option.isSome_some, decide_true, decide_false, List.length_map, seqOf, f_lawE_nought_at, b_lawE_nought_at, h0, e_size, notin2, hlp]
theorem e_bars [H_lawE_bars I L fs] (form : List Int) (k : Nat) (G : Hh) (hk : 5 ≤ k) (hf : Sf form) : run L fs k I.lawE_bars [iT form] G = .ok (iT (bars form)) G := by
  obtain ⟨k, rfl⟩ : ∃ m, k = m + 1 := ⟨k - 1, by omega⟩
  rw [run_at (A_lawE_bars L) rfl k _ G rfl]
  have hl := hf.2.2
  have hz : (look form).length ≤ 1000000 := by have := look_len form; omega
  have e := fun (o : Option W) => lc_filt (G := G) (xs := look form) W.int (fun p => !givesW form (part form) p) (step := lcStep [2] (.nm 2) (evT L (run L fs k) (.not (.tru (.call I.lawE_nought_at (.cons (.v 0) (.cons (.v 2) .nil)) [])))) (evE L (run L fs k) (.v 2)) [some (iT form), some (iL (look form)), none]) (fun p hp => by
    obtain ⟨p1, p2⟩ := zprs_bd p (look_in hp)
    cases h : givesW form (part form) p <;> simp (disch := first | assumption | omega) only [List.map, List.map_cons, List.map_nil, Nat.reduceSub, List.replicate, List.cons_append, List.nil_append, List.append_nil, xs_cons, xs_nil, x_ret, x_asg, x_par, x_unp, x_drop, x_cond, x_loop, x_wh, x_raise1, x_setL, x_setF, x_app, x_try, e_fld, e_meth, e_lstT, g_nm, g_nil, IG.len, e_non, e_bl, e_int, e_str, e_v, e_g, e_op, e_neg, e_cmp, e_chain, e_and, e_or, e_not, e_ife, e_tup, e_lstF, e_ix, e_sl, e_call, e_bi, e_lc, e_isT, e_inG, e_ixG, es_nil, es_cons, es_star, o_no, o_yes, t_yes, t_and, t_or, t_not, t_val, t_tru, i_seq, i_r1, i_r2, i_enum, getS0, getSs, ofO_s, bindOk, bindEx, thnOk, thnEx, sthnNx, sthnRt, sthnEx, noexOk, endK_rt, endK_nx, endK_ex, c_eq_i, c_ne_i, c_eq_s, c_ne_s, c_lt, c_le, c_gt, c_ge, c_isN, c_notN, o_add, o_sub, o_mul, o_mod, o_div, o_addL, o_addT, tru_bl, tru_i, e_callK, e_callV, e_dct, e_mk, x_par3, x_setD, x_raise0, bi_lenT, bi_lenL, bi_min, bi_min2, bi_max2, bi_abs, bi_int, bi_intb, bi_tupL, bi_tupT, bi_lstT, bi_lstL, sl_L, sl_T, isNon, Option.map, List.set, and_self, if_true, if_false, Bool.false_eq_true, Bool.not_true, Bool.not_false, List.length, List.length_cons, List.length_nil, eq_self, Nat.zero_add, Nat.reduceAdd, Nat.reduceLeDiff, Option.bind_some, Option.isSome_some, decide_true, decide_false, List.length_map, seqOf, lcStep, bindTg, wipeR, e_noughtat, h])
  have e := e none
  unfold bars
  cases h : (((form.length : Nat) : Int) == 1)
  · cases h2 : (((form.length : Nat) : Int) == 2)
    · have hlk : look form = 0 :: plc form := by unfold look; rw [h2]; rfl
      have hpl : ∀ k G, 2 ≤ k → run L fs k I.lawE_places [iT form] G = .ok (iL (look form)) G := fun k G hk => by rw [hlk]; exact e_places form k G hk hl
      generalize look form = lk at *
      simp (disch := first | assumption | omega) only [List.map, List.map_cons, List.map_nil, Nat.reduceSub, List.replicate, List.cons_append, List.nil_append, List.append_nil, xs_cons, xs_nil, x_ret, x_asg, x_par, x_unp, x_drop, x_cond, x_loop, x_wh, x_raise1, x_setL, x_setF, x_app, x_try, e_fld, e_meth, e_lstT, g_nm, g_nil, IG.len, e_non, e_bl, e_int, e_str, e_v, e_g, e_op, e_neg, e_cmp, e_chain, e_and, e_or, e_not, e_ife, e_tup, e_lstF, e_ix, e_sl, e_call, e_bi, e_lc, e_isT, e_inG, e_ixG, es_nil, es_cons, es_star, o_no, o_yes, t_yes, t_and, t_or, t_not, t_val, t_tru, i_seq, i_r1, i_r2, i_enum, getS0, getSs, ofO_s, bindOk, bindEx, thnOk, thnEx, sthnNx, sthnRt, sthnEx, noexOk, endK_rt, endK_nx, endK_ex, c_eq_i, c_ne_i, c_eq_s, c_ne_s, c_lt, c_le, c_gt, c_ge, c_isN, c_notN, o_add, o_sub, o_mul, o_mod, o_div, o_addL, o_addT, tru_bl, tru_i, e_callK, e_callV, e_dct, e_mk, x_par3, x_setD, x_raise0, bi_lenT, bi_lenL, bi_min, bi_min2, bi_max2, bi_abs, bi_int, bi_intb, bi_tupL, bi_tupT, bi_lstT, bi_lstL, sl_L, sl_T, isNon, Option.map, List.set, and_self, if_true, if_false, Bool.false_eq_true, Bool.not_true, Bool.not_false, List.length, List.length_cons, List.length_nil, eq_self, Nat.zero_add, Nat.reduceAdd, Nat.reduceLeDiff, Option.bind_some, Option.isSome_some, decide_true, decide_false, List.length_map, seqOf, f_lawE_bars, b_lawE_bars, h, h2, hpl, hz, e]
    · have hlk : look form = 0 :: prs := by unfold look; rw [h2]; rfl
      have h26 : [W.int 0].length + (prs.map W.int).length ≤ 1000000 := by decide
      have ho : ∀ G, evOp .add (.lst [W.int 0]) (.lst (prs.map W.int)) G = .ok (.lst ((look form).map W.int)) G := fun G => by rw [hlk]; exact o_addL _ _ G h26
      generalize look form = lk at *
      simp (disch := first | assumption | omega) only [List.map, List.map_cons, List.map_nil, Nat.reduceSub, List.replicate, List.cons_append, List.nil_append, List.append_nil, xs_cons, xs_nil, x_ret, x_asg, x_par, x_unp, x_drop, x_cond, x_loop, x_wh, x_raise1, x_setL, x_setF, x_app, x_try, e_fld, e_meth, e_lstT, g_nm, g_nil, IG.len, e_non, e_bl, e_int, e_str, e_v, e_g, e_op, e_neg, e_cmp, e_chain, e_and, e_or, e_not, e_ife, e_tup, e_lstF, e_ix, e_sl, e_call, e_bi, e_lc, e_isT, e_inG, e_ixG, es_nil, es_cons, es_star, o_no, o_yes, t_yes, t_and, t_or, t_not, t_val, t_tru, i_seq, i_r1, i_r2, i_enum, getS0, getSs, ofO_s, bindOk, bindEx, thnOk, thnEx, sthnNx, sthnRt, sthnEx, noexOk, endK_rt, endK_nx, endK_ex, c_eq_i, c_ne_i, c_eq_s, c_ne_s, c_lt, c_le, c_gt, c_ge, c_isN, c_notN, o_add, o_sub, o_mul, o_mod, o_div, o_addL, o_addT, tru_bl, tru_i, e_callK, e_callV, e_dct, e_mk, x_par3, x_setD, x_raise0, bi_lenT, bi_lenL, bi_min, bi_min2, bi_max2, bi_abs, bi_int, bi_intb, bi_tupL, bi_tupT, bi_lstT, bi_lstL, sl_L, sl_T, isNon, Option.map, List.set, and_self, if_true, if_false, Bool.false_eq_true, Bool.not_true, Bool.not_false, List.length, List.length_cons, List.length_nil, eq_self, Nat.zero_add, Nat.reduceAdd, Nat.reduceLeDiff, Option.bind_some, Option.isSome_some, decide_true, decide_false, List.length_map, seqOf, f_lawE_bars, b_lawE_bars, h, h2, e_primes, ho, hz, e]
  · simp (disch := first | assumption | omega) only [List.map, List.map_cons, List.map_nil, Nat.reduceSub, List.replicate, List.cons_append, List.nil_append, List.append_nil, xs_cons, xs_nil, x_ret, x_asg, x_par, x_unp, x_drop, x_cond, x_loop, x_wh, x_raise1, x_setL, x_setF, x_app, x_try, e_fld, e_meth, e_lstT, g_nm, g_nil, IG.len, e_non, e_bl, e_int, e_str, e_v, e_g, e_op, e_neg, e_cmp, e_chain, e_and, e_or, e_not, e_ife, e_tup, e_lstF, e_ix, e_sl, e_call, e_bi, e_lc, e_isT, e_inG, e_ixG, es_nil, es_cons, es_star, o_no, o_yes, t_yes, t_and, t_or, t_not, t_val, t_tru, i_seq, i_r1, i_r2, i_enum, getS0, getSs, ofO_s, bindOk, bindEx, thnOk, thnEx, sthnNx, sthnRt, sthnEx, noexOk, endK_rt, endK_nx, endK_ex, c_eq_i, c_ne_i, c_eq_s, c_ne_s, c_lt, c_le, c_gt, c_ge, c_isN, c_notN, o_add, o_sub, o_mul, o_mod, o_div, o_addL, o_addT, tru_bl, tru_i, e_callK, e_callV, e_dct, e_mk, x_par3, x_setD, x_raise0, bi_lenT, bi_lenL, bi_min, bi_min2, bi_max2, bi_abs, bi_int, bi_intb, bi_tupL, bi_tupT, bi_lstT, bi_lstL, sl_L, sl_T, isNon, Option.map, List.set, and_self, if_true, if_false, Bool.false_eq_true, Bool.not_true, Bool.not_false, List.length, List.length_cons, List.length_nil, eq_self, Nat.zero_add, Nat.reduceAdd, Nat.reduceLeDiff, Option.bind_some, Option.isSome_some, decide_true, decide_false, List.length_map, seqOf, f_lawE_bars, b_lawE_bars, h]
    rfl
theorem nought_all {form : List Int} (h3 : 3 ≤ form.length) : nought form = ((0 :: plc form).filter fun p => !givesW form (part form) p).isEmpty := by
  have e1 : (((form.length : Nat) : Int) == 1) = false := by simp; omega
  have e2 : (((form.length : Nat) : Int) == 2) = false := by simp; omega
  have e3 : decide (((form.length : Nat) : Int) < 2) = false := decide_eq_false (by omega)
  rw [filt_empty]
  unfold nought
  rw [e1, e2, if_neg Bool.false_ne_true, if_neg Bool.false_ne_true, all_map]
  have hany : (!((0 :: plc form).any fun p => !givesW form (part form) p)) = (0 :: plc form).all fun p => givesW form (part form) p := by
    rw [List.not_any_eq_all_not]
    simp
  rw [hany]
  split
  · rename_i c
    have h0 : givesW form (part form) 0 = decide (0 < least form) := by unfold givesW; simp
    rw [List.all_cons, h0]
    cases c4 : decide (4 < ((form.length : Nat) : Int))
    · rw [c4, Bool.or_false] at c
      have := eq_of_beq c
      rw [this]
      simp
    · have : ((plc form).all fun p => givesW form (part form) p) = true := List.all_eq_true.mpr fun p hp => by
        have hp2 := (prs_bd p (List.mem_filter.mp hp).1).1
        have hp0 : (p == 0) = false := by simp; omega
        unfold givesW
        rw [hp0, e3, c4]
        simp
      rw [this, Bool.and_true]
  · rfl
theorem e_nought [H_lawE_gives_nought I L fs] (form : List Int) (k : Nat) (G : Hh) (hk : 5 ≤ k) (hf : Sf form) (h1 : 1 ≤ form.length) : run L fs k I.lawE_gives_nought [iT form] G = .ok (.bl (nought form)) G := by
  obtain ⟨k, rfl⟩ : ∃ m, k = m + 1 := ⟨k - 1, by omega⟩
  rw [run_at (A_lawE_gives_nought L) rfl k _ G rfl]
  have hl := hf.2.2
  have hnz : ∀ w ∈ form, w ≠ 0 := fun w hw => (hf.1 w hw).1
  cases h2 : (((form.length : Nat) : Int) == 2)
  · cases h3 : decide (1 < ((form.length : Nat) : Int))
    · have e1 : (((form.length : Nat) : Int) == 1) = true := by
        have := of_decide_eq_false h3
        simp; omega
      unfold nought
      rw [e1]
      simp (disch := first | assumption | omega) only [List.map, List.map_cons, List.map_nil, Nat.reduceSub, List.replicate, List.cons_append, List.nil_append, List.append_nil, xs_cons, xs_nil, x_ret, x_asg, x_par, x_unp, x_drop, x_cond, x_loop, x_wh, x_raise1, x_setL, x_setF, x_app, x_try, e_fld, e_meth, e_lstT, g_nm, g_nil, IG.len, e_non, e_bl, e_int, e_str, e_v, e_g, e_op, e_neg, e_cmp, e_chain, e_and, e_or, e_not, e_ife, e_tup, e_lstF, e_ix, e_sl, e_call, e_bi, e_lc, e_isT, e_inG, e_ixG, es_nil, es_cons, es_star, o_no, o_yes, t_yes, t_and, t_or, t_not, t_val, t_tru, i_seq, i_r1, i_r2, i_enum, getS0, getSs, ofO_s, bindOk, bindEx, thnOk, thnEx, sthnNx, sthnRt, sthnEx, noexOk, endK_rt, endK_nx, endK_ex, c_eq_i, c_ne_i, c_eq_s, c_ne_s, c_lt, c_le, c_gt, c_ge, c_isN, c_notN, o_add, o_sub, o_mul, o_mod, o_div, o_addL, o_addT, tru_bl, tru_i, e_callK, e_callV, e_dct, e_mk, x_par3, x_setD, x_raise0, bi_lenT, bi_lenL, bi_min, bi_min2, bi_max2, bi_abs, bi_int, bi_intb, bi_tupL, bi_tupT, bi_lstT, bi_lstL, sl_L, sl_T, isNon, Option.map, List.set, and_self, if_true, if_false, Bool.false_eq_true, Bool.not_true, Bool.not_false, List.length, List.length_cons, List.length_nil, eq_self, Nat.zero_add, Nat.reduceAdd, Nat.reduceLeDiff, Option.bind_some, Option.isSome_some, decide_true, decide_false, List.length_map, seqOf, f_lawE_gives_nought, b_lawE_gives_nought, h2, h3]
    · have h3' : 3 ≤ form.length := by
        have := of_decide_eq_true h3
        have h2 : ¬ ((form.length : Nat) : Int) = 2 := by simpa using h2
        omega
      have hz : (0 :: plc form).length ≤ 1000000 := by have := plc_len form; omega
      have e := lc_filt (G := G) (xs := 0 :: plc form) W.int (fun p => !givesW form (part form) p) (step := lcStep [1] (.nm 1) (evT L (run L fs k) (.not (.tru (.call I.lawE_nought_at (.cons (.v 0) (.cons (.v 1) .nil)) [])))) (evE L (run L fs k) (.v 1)) [some (iT form), none]) (fun p hp => by
        obtain ⟨p1, p2⟩ := zprs_bd p (plc_in hp)
        cases h : givesW form (part form) p <;> simp (disch := first | assumption | omega) only [List.map, List.map_cons, List.map_nil, Nat.reduceSub, List.replicate, List.cons_append, List.nil_append, List.append_nil, xs_cons, xs_nil, x_ret, x_asg, x_par, x_unp, x_drop, x_cond, x_loop, x_wh, x_raise1, x_setL, x_setF, x_app, x_try, e_fld, e_meth, e_lstT, g_nm, g_nil, IG.len, e_non, e_bl, e_int, e_str, e_v, e_g, e_op, e_neg, e_cmp, e_chain, e_and, e_or, e_not, e_ife, e_tup, e_lstF, e_ix, e_sl, e_call, e_bi, e_lc, e_isT, e_inG, e_ixG, es_nil, es_cons, es_star, o_no, o_yes, t_yes, t_and, t_or, t_not, t_val, t_tru, i_seq, i_r1, i_r2, i_enum, getS0, getSs, ofO_s, bindOk, bindEx, thnOk, thnEx, sthnNx, sthnRt, sthnEx, noexOk, endK_rt, endK_nx, endK_ex, c_eq_i, c_ne_i, c_eq_s, c_ne_s, c_lt, c_le, c_gt, c_ge, c_isN, c_notN, o_add, o_sub, o_mul, o_mod, o_div, o_addL, o_addT, tru_bl, tru_i, e_callK, e_callV, e_dct, e_mk, x_par3, x_setD, x_raise0, bi_lenT, bi_lenL, bi_min, bi_min2, bi_max2, bi_abs, bi_int, bi_intb, bi_tupL, bi_tupT, bi_lstT, bi_lstL, sl_L, sl_T, isNon, Option.map, List.set, and_self, if_true, if_false, Bool.false_eq_true, Bool.not_true, Bool.not_false, List.length, List.length_cons, List.length_nil, eq_self, Nat.zero_add, Nat.reduceAdd, Nat.reduceLeDiff, Option.bind_some, Option.isSome_some, decide_true, decide_false, List.length_map, seqOf, lcStep, bindTg, wipeR, e_noughtat, h])
      rw [nought_all h3']
      have hpl : ∀ k G, 2 ≤ k → run L fs k I.lawE_places [iT form] G = .ok (iL (0 :: plc form)) G := fun k G hk => e_places form k G hk hl
      generalize 0 :: plc form = pl at *
      simp (disch := first | assumption | omega) only [List.map, List.map_cons, List.map_nil, Nat.reduceSub, List.replicate, List.cons_append, List.nil_append, List.append_nil, xs_cons, xs_nil, x_ret, x_asg, x_par, x_unp, x_drop, x_cond, x_loop, x_wh, x_raise1, x_setL, x_setF, x_app, x_try, e_fld, e_meth, e_lstT, g_nm, g_nil, IG.len, e_non, e_bl, e_int, e_str, e_v, e_g, e_op, e_neg, e_cmp, e_chain, e_and, e_or, e_not, e_ife, e_tup, e_lstF, e_ix, e_sl, e_call, e_bi, e_lc, e_isT, e_inG, e_ixG, es_nil, es_cons, es_star, o_no, o_yes, t_yes, t_and, t_or, t_not, t_val, t_tru, i_seq, i_r1, i_r2, i_enum, getS0, getSs, ofO_s, bindOk, bindEx, thnOk, thnEx, sthnNx, sthnRt, sthnEx, noexOk, endK_rt, endK_nx, endK_ex, c_eq_i, c_ne_i, c_eq_s, c_ne_s, c_lt, c_le, c_gt, c_ge, c_isN, c_notN, o_add, o_sub, o_mul, o_mod, o_div, o_addL, o_addT, tru_bl, tru_i, e_callK, e_callV, e_dct, e_mk, x_par3, x_setD, x_raise0, bi_lenT, bi_lenL, bi_min, bi_min2, bi_max2, bi_abs, bi_int, bi_intb, bi_tupL, bi_tupT, bi_lstT, bi_lstL, sl_L, sl_T, isNon, Option.map, List.set, and_self, if_true, if_false, Bool.false_eq_true, Bool.not_true, Bool.not_false, List.length, List.length_cons, List.length_nil, eq_self, Nat.zero_add, Nat.reduceAdd, Nat.reduceLeDiff, Option.bind_some, Option.isSome_some, decide_true, decide_false, List.length_map, seqOf, f_lawE_gives_nought, b_lawE_gives_nought, h2, h3, hpl, hz, e, c_eqL0]
  · have hlen : form.length = 2 := by have := eq_of_beq h2; omega
    obtain ⟨a, b, rfl⟩ : ∃ a b, form = [a, b] := by
      match form, hlen with
      | [a, b], _ => exact ⟨a, b, rfl⟩
    have sa := hf.1 a (by simp)
    have sb := hf.1 b (by simp)
    obtain ⟨k1, hk1, q1⟩ := part_snoc [] sa
    obtain ⟨k2, hk2, q2⟩ := part_snoc [a] sb
    rw [part_nil, Int.one_mul] at q1
    simp only [List.nil_append, List.cons_append] at q1 q2
    have hab : a * b = part [a, b] * (k1 * k2 * (k1 * k2)) := by
      have : a * b = part [a] * b * (k1 * k1) := by
        have h := congrArg (· * b) q1
        simp only [Int.mul_assoc, Int.mul_left_comm, Int.mul_comm] at h ⊢
        exact h
      rw [this, q2]
      simp only [Int.mul_assoc, Int.mul_left_comm, Int.mul_comm]
    have hpb : (a * b).natAbs < 1073741824 := by
      have := hf.2.1
      rw [Int.natAbs_mul]
      have e : pab [a, b] = a.natAbs * (b.natAbs * 1) := rfl
      rw [e, Nat.mul_one] at this
      exact this
    have ec := fun k G hk => e_core (I := I) (L := L) (fs := fs) (a * b) (part [a, b]) (k1 * k2) k G hk hpb hab (Int.mul_ne_zero hk1 hk2) (sqf_part _)
    have hb1 := ((hf.fm).1.1 a (by simp)).2
    have hb2 := ((hf.fm).1.1 b (by simp)).2
    have hl2 : ((([a, b] : List Int).length : Nat) : Int) == 2 := rfl
    have hl1 : (((([a, b] : List Int).length : Nat) : Int) == 1) = false := rfl
    have h22 : (((2 : Nat) : Int) == 2) = true := rfl
    have h23 : ((2 : Int) == 2) = true := rfl
    unfold nought
    rw [hl1, hl2, if_neg Bool.false_ne_true, if_pos rfl]
    have hi : iT [a, b] = .tup [.int a, .int b] := rfl
    simp (disch := first | assumption | omega) only [List.map, List.map_cons, List.map_nil, Nat.reduceSub, List.replicate, List.cons_append, List.nil_append, List.append_nil, xs_cons, xs_nil, x_ret, x_asg, x_par, x_unp, x_drop, x_cond, x_loop, x_wh, x_raise1, x_setL, x_setF, x_app, x_try, e_fld, e_meth, e_lstT, g_nm, g_nil, IG.len, e_non, e_bl, e_int, e_str, e_v, e_g, e_op, e_neg, e_cmp, e_chain, e_and, e_or, e_not, e_ife, e_tup, e_lstF, e_ix, e_sl, e_call, e_bi, e_lc, e_isT, e_inG, e_ixG, es_nil, es_cons, es_star, o_no, o_yes, t_yes, t_and, t_or, t_not, t_val, t_tru, i_seq, i_r1, i_r2, i_enum, getS0, getSs, ofO_s, bindOk, bindEx, thnOk, thnEx, sthnNx, sthnRt, sthnEx, noexOk, endK_rt, endK_nx, endK_ex, c_eq_i, c_ne_i, c_eq_s, c_ne_s, c_lt, c_le, c_gt, c_ge, c_isN, c_notN, o_add, o_sub, o_mul, o_mod, o_div, o_addL, o_addT, tru_bl, tru_i, e_callK, e_callV, e_dct, e_mk, x_par3, x_setD, x_raise0, bi_lenT, bi_lenL, bi_min, bi_min2, bi_max2, bi_abs, bi_int, bi_intb, bi_tupL, bi_tupT, bi_lstT, bi_lstL, sl_L, sl_T, isNon, Option.map, List.set, and_self, if_true, if_false, Bool.false_eq_true, Bool.not_true, Bool.not_false, List.length, List.length_cons, List.length_nil, eq_self, Nat.zero_add, Nat.reduceAdd, Nat.reduceLeDiff, Option.bind_some, Option.isSome_some, decide_true, decide_false, List.length_map, seqOf, f_lawE_gives_nought, b_lawE_gives_nought, hi, h22, h23, ix0, ix1, ec]
end
end PI
end

section
set_option autoImplicit false
set_option maxHeartbeats 2000000
/-! S7: deeds, what stands against them. -/
namespace PI
open PySem (Str PyData)
open NF
/-- weights of at most a size -/
def Dw (B : Nat) (form : List Int) : Prop := ∀ w ∈ form, w ≠ 0 ∧ w.natAbs ≤ B
theorem pab_le {B : Nat} : ∀ {form : List Int}, Dw B form → pab form ≤ B ^ form.length
  | [], _ => by simp [pab]
  | w :: r, h => by
    have h1 := pab_le (form := r) fun x hx => h x (by simp [hx])
    have h2 := (h w (by simp)).2
    show w.natAbs * pab r ≤ B ^ (r.length + 1)
    rw [Nat.pow_succ, Nat.mul_comm (B ^ _)]
    exact Nat.mul_le_mul h2 h1
theorem Dw.mono {B C : Nat} {form : List Int} (h : Dw B form) (hb : B ≤ C) : Dw C form := fun w hw => ⟨(h w hw).1, Nat.le_trans (h w hw).2 hb⟩
theorem Dw.sf {form : List Int} (h : Dw 15 form) (hl : form.length ≤ 6) : Sf form := by
  refine ⟨fun w hw => smo_small w (h w hw).1 (by have := (h w hw).2; omega), ?_, by omega⟩
  have h1 := pab_le h
  have h2 : 15 ^ form.length ≤ 15 ^ 6 := Nat.pow_le_pow_right (by decide) hl
  have h3 : 15 ^ 6 < 1073741824 := by decide
  omega
theorem Dw.fmp {form : List Int} (h : Dw 99 form) (hl : form.length ≤ 6) : FmP form := by
  have hs : ∀ w ∈ form, Smo w := fun w hw => smo_small w (h w hw).1 (h w hw).2
  refine ⟨⟨fun w hw => ⟨(h w hw).1, by have := (h w hw).2; omega⟩, by omega⟩, ?_⟩
  have h1 := pab_le h
  have h2 : 99 ^ form.length ≤ 99 ^ 6 := Nat.pow_le_pow_right (by decide) hl
  have h3 : 99 ^ 6 < 18446744073709551616 := by decide
  have h4 := part_bd form hs
  show (part form).natAbs < _
  have h5 : (form.map Int.natAbs).foldr (· * ·) 1 = pab form := rfl
  omega
/-! ### deeds -/
inductive Deed | tk (i : Nat) | tn (i : Nat) (w : Int) | pt (w : Int)
def sPut : Str := Str.ofString "put"
def sTake : Str := Str.ofString "take"
def sTurn : Str := Str.ofString "turn"
def Deed.W : Deed → W
  | .tk i => .tup [.str (Str.ofString "take"), .int (i : Nat)]
  | .tn i w => .tup [.str (Str.ofString "turn"), .int (i : Nat), .int w]
  | .pt w => .tup [.str (Str.ofString "put"), .int w]
def Deed.ok (B : Nat) : Deed → Prop
  | .tk i => i ≤ 1000
  | .tn i w => i ≤ 1000 ∧ w ≠ 0 ∧ w.natAbs ≤ B
  | .pt w => w ≠ 0 ∧ w.natAbs ≤ B
theorem Deed.ok.mono {B C : Nat} {d : Deed} (h : d.ok B) (hb : B ≤ C) : d.ok C := by
  cases d with
  | tk i => exact h
  | tn i w => exact ⟨h.1, h.2.1, Nat.le_trans h.2.2 hb⟩
  | pt w => exact ⟨h.1, Nat.le_trans h.2 hb⟩
def after (form : List Int) : Deed → List Int
  | .tk i => form.take i ++ form.drop (i + 1)
  | .tn i w => form.take i ++ [w] ++ form.drop (i + 1)
  | .pt w => form ++ [w]
theorem after_dw {B : Nat} {form : List Int} {d : Deed} (h : Dw B form) (hd : d.ok B) : Dw B (after form d) := by
  intro x hx
  cases d with
  | tk i =>
    rcases List.mem_append.mp hx with z | z
    · exact h x (List.mem_of_mem_take z)
    · exact h x (List.mem_of_mem_drop z)
  | tn i w =>
    rcases List.mem_append.mp hx with z | z
    · rcases List.mem_append.mp z with z | z
      · exact h x (List.mem_of_mem_take z)
      · have : x = w := by simpa using z
        exact this ▸ hd.2
    · exact h x (List.mem_of_mem_drop z)
  | pt w =>
    rcases List.mem_append.mp hx with z | z
    · exact h x z
    · have : x = w := by simpa using z
      exact this ▸ hd
theorem after_len (form : List Int) (d : Deed) : (after form d).length ≤ form.length + 1 := by
  cases d <;> simp [after] <;> omega
/-- the first reason by itself -/
def rsn0 (form : List Int) : Deed → Option Str
  | .pt _ => if (((form.length : Nat) : Int) == 4) = true then some (Str.ofString "full") else none
  | .tk i => if decide (((form.length : Nat) : Int) ≤ ((i : Nat) : Int)) = true then some (Str.ofString "none") else if (((form.length : Nat) : Int) == 1) = true then some (Str.ofString "one") else none
  | .tn i w => if decide (((form.length : Nat) : Int) ≤ ((i : Nat) : Int)) = true then some (Str.ofString "none") else if (form.getD i 0 == w) = true then some (Str.ofString "same") else none
def isTk : Deed → Bool
  | .tk _ => true
  | _ => false
def rsn (form : List Int) (d : Deed) : Option Str := match rsn0 form d with
  | some s => some s
  | none => if isTk d = true then none else if nought (after form d) = true then some (Str.ofString "nought") else none
def oS : Option Str → W
  | none => .non
  | some s => .str s
def oE : Option Str → W
  | none => .str (Str.ofString "")
  | some s => .str s
theorem rsn_len {form : List Int} {d : Deed} (h1 : 1 ≤ form.length) (h4 : form.length ≤ 4) (h : rsn form d = none) : 1 ≤ (after form d).length ∧ (after form d).length ≤ 4 := by
  unfold rsn at h
  cases e : rsn0 form d with
  | some s => rw [e] at h; cases h
  | none =>
    cases d with
    | tk i =>
      simp only [rsn0] at e
      split at e
      · cases e
      · split at e
        · cases e
        · rename_i c1 c2
          have c1 : ¬ ((form.length : Nat) : Int) ≤ ((i : Nat) : Int) := by simpa using c1
          have c2 : ¬ ((form.length : Nat) : Int) = 1 := by simpa using c2
          simp [after]; omega
    | tn i w =>
      simp only [rsn0] at e
      split at e
      · cases e
      · rename_i c1
        have c1 : ¬ ((form.length : Nat) : Int) ≤ ((i : Nat) : Int) := by simpa using c1
        simp [after]; omega
    | pt w =>
      simp only [rsn0] at e
      split at e
      · cases e
      · rename_i c2
        have c2 : ¬ ((form.length : Nat) : Int) = 4 := by simpa using c2
        simp [after]; omega
theorem s_pp : decide (Str.ofString "put" = Str.ofString "put") = true := by decide
theorem s_kp : decide (Str.ofString "take" = Str.ofString "put") = false := by decide
theorem s_np : decide (Str.ofString "turn" = Str.ofString "put") = false := by decide
theorem s_pn : decide (Str.ofString "put" = Str.ofString "turn") = false := by decide
theorem s_kn : decide (Str.ofString "take" = Str.ofString "turn") = false := by decide
theorem s_nn : decide (Str.ofString "turn" = Str.ofString "turn") = true := by decide
theorem s_pk : decide (Str.ofString "put" = Str.ofString "take") = false := by decide
theorem s_kk : decide (Str.ofString "take" = Str.ofString "take") = true := by decide
theorem s_nk : decide (Str.ofString "turn" = Str.ofString "take") = false := by decide
section
variable {I : Ix} {L : Lib} {fs : List Fn}
theorem d_whole [H_values_is_whole I L fs] (i : Int) (k : Nat) (G : Hh) (hk : 1 ≤ k) : run L fs k I.values_is_whole [.int i] G = .ok (.bl true) G := by
  obtain ⟨k, rfl⟩ : ∃ m, k = m + 1 := ⟨k - 1, by omega⟩
  rw [run_at (A_values_is_whole L) rfl k _ G rfl]
  rfl
theorem d_between [H_values_is_between I L fs] (i a b : Int) (k : Nat) (G : Hh) (hk : 2 ≤ k) : run L fs k I.values_is_between [.int i, .int a, .int b] G = .ok (.bl (decide (a ≤ i) && decide (i ≤ b))) G := by
  obtain ⟨k, rfl⟩ : ∃ m, k = m + 1 := ⟨k - 1, by omega⟩
  rw [run_at (A_values_is_between L) rfl k _ G rfl]
  cases h : decide (a ≤ i) <;> simp (disch := first | assumption | omega) only [List.map, List.map_cons, List.map_nil, Nat.reduceSub, List.replicate, List.cons_append, List.nil_append, List.append_nil, xs_cons, xs_nil, x_ret, x_asg, x_par, x_unp, x_drop, x_cond, x_loop, x_wh, x_raise1, x_setL, x_setF, x_app, x_try, e_fld, e_meth, e_lstT, g_nm, g_nil, IG.len, e_non, e_bl, e_int, e_str, e_v, e_g, e_op, e_neg, e_cmp, e_chain, e_and, e_or, e_not, e_ife, e_tup, e_lstF, e_ix, e_sl, e_call, e_bi, e_lc, e_isT, e_inG, e_ixG, es_nil, es_cons, es_star, o_no, o_yes, t_yes, t_and, t_or, t_not, t_val, t_tru, i_seq, i_r1, i_r2, i_enum, getS0, getSs, ofO_s, bindOk, bindEx, thnOk, thnEx, sthnNx, sthnRt, sthnEx, noexOk, endK_rt, endK_nx, endK_ex, c_eq_i, c_ne_i, c_eq_s, c_ne_s, c_lt, c_le, c_gt, c_ge, c_isN, c_notN, o_add, o_sub, o_mul, o_mod, o_div, o_addL, o_addT, tru_bl, tru_i, e_callK, e_callV, e_dct, e_mk, x_par3, x_setD, x_raise0, bi_lenT, bi_lenL, bi_min, bi_min2, bi_max2, bi_abs, bi_int, bi_intb, bi_tupL, bi_tupT, bi_lstT, bi_lstL, sl_L, sl_T, isNon, Option.map, List.set, and_self, if_true, if_false, Bool.false_eq_true, Bool.not_true, Bool.not_false, List.length, List.length_cons, List.length_nil, eq_self, Nat.zero_add, Nat.reduceAdd, Nat.reduceLeDiff, Option.bind_some, Option.isSome_some, decide_true, decide_false, List.length_map, seqOf, f_values_is_between, b_values_is_between, d_whole, h, Bool.true_and, Bool.false_and]
theorem d_nonzero [H_signs_is_nonzero I L fs] (i m : Int) (k : Nat) (G : Hh) (hk : 3 ≤ k) : run L fs k I.signs_is_nonzero [.int i, .int m] G = .ok (.bl ((decide (-m ≤ i) && decide (i ≤ m)) && !(i == 0))) G := by
  obtain ⟨k, rfl⟩ : ∃ m, k = m + 1 := ⟨k - 1, by omega⟩
  rw [run_at (A_signs_is_nonzero L) rfl k _ G rfl]
  cases h : (decide (-m ≤ i) && decide (i ≤ m)) <;> simp (disch := first | assumption | omega) only [List.map, List.map_cons, List.map_nil, Nat.reduceSub, List.replicate, List.cons_append, List.nil_append, List.append_nil, xs_cons, xs_nil, x_ret, x_asg, x_par, x_unp, x_drop, x_cond, x_loop, x_wh, x_raise1, x_setL, x_setF, x_app, x_try, e_fld, e_meth, e_lstT, g_nm, g_nil, IG.len, e_non, e_bl, e_int, e_str, e_v, e_g, e_op, e_neg, e_cmp, e_chain, e_and, e_or, e_not, e_ife, e_tup, e_lstF, e_ix, e_sl, e_call, e_bi, e_lc, e_isT, e_inG, e_ixG, es_nil, es_cons, es_star, o_no, o_yes, t_yes, t_and, t_or, t_not, t_val, t_tru, i_seq, i_r1, i_r2, i_enum, getS0, getSs, ofO_s, bindOk, bindEx, thnOk, thnEx, sthnNx, sthnRt, sthnEx, noexOk, endK_rt, endK_nx, endK_ex, c_eq_i, c_ne_i, c_eq_s, c_ne_s, c_lt, c_le, c_gt, c_ge, c_isN, c_notN, o_add, o_sub, o_mul, o_mod, o_div, o_addL, o_addT, tru_bl, tru_i, e_callK, e_callV, e_dct, e_mk, x_par3, x_setD, x_raise0, bi_lenT, bi_lenL, bi_min, bi_min2, bi_max2, bi_abs, bi_int, bi_intb, bi_tupL, bi_tupT, bi_lstT, bi_lstL, sl_L, sl_T, isNon, Option.map, List.set, and_self, if_true, if_false, Bool.false_eq_true, Bool.not_true, Bool.not_false, List.length, List.length_cons, List.length_nil, eq_self, Nat.zero_add, Nat.reduceAdd, Nat.reduceLeDiff, Option.bind_some, Option.isSome_some, decide_true, decide_false, List.length_map, seqOf, f_signs_is_nonzero, b_signs_is_nonzero, d_between, h, Bool.true_and, Bool.false_and]
theorem d_weight [H_signs_is_weight I L fs] (w : Int) (k : Nat) (G : Hh) (hk : 4 ≤ k) (h0 : w ≠ 0) (hw : w.natAbs ≤ 99) : run L fs k I.signs_is_weight [.int w] G = .ok (.bl true) G := by
  obtain ⟨k, rfl⟩ : ∃ m, k = m + 1 := ⟨k - 1, by omega⟩
  rw [run_at (A_signs_is_weight L) rfl k _ G rfl]
  have h1 : decide (-99 ≤ w) = true := decide_eq_true (by omega)
  have h2 : decide (w ≤ 99) = true := decide_eq_true (by omega)
  have h3 : (w == 0) = false := by simpa using h0
  simp (disch := first | assumption | omega) only [List.map, List.map_cons, List.map_nil, Nat.reduceSub, List.replicate, List.cons_append, List.nil_append, List.append_nil, xs_cons, xs_nil, x_ret, x_asg, x_par, x_unp, x_drop, x_cond, x_loop, x_wh, x_raise1, x_setL, x_setF, x_app, x_try, e_fld, e_meth, e_lstT, g_nm, g_nil, IG.len, e_non, e_bl, e_int, e_str, e_v, e_g, e_op, e_neg, e_cmp, e_chain, e_and, e_or, e_not, e_ife, e_tup, e_lstF, e_ix, e_sl, e_call, e_bi, e_lc, e_isT, e_inG, e_ixG, es_nil, es_cons, es_star, o_no, o_yes, t_yes, t_and, t_or, t_not, t_val, t_tru, i_seq, i_r1, i_r2, i_enum, getS0, getSs, ofO_s, bindOk, bindEx, thnOk, thnEx, sthnNx, sthnRt, sthnEx, noexOk, endK_rt, endK_nx, endK_ex, c_eq_i, c_ne_i, c_eq_s, c_ne_s, c_lt, c_le, c_gt, c_ge, c_isN, c_notN, o_add, o_sub, o_mul, o_mod, o_div, o_addL, o_addT, tru_bl, tru_i, e_callK, e_callV, e_dct, e_mk, x_par3, x_setD, x_raise0, bi_lenT, bi_lenL, bi_min, bi_min2, bi_max2, bi_abs, bi_int, bi_intb, bi_tupL, bi_tupT, bi_lstT, bi_lstL, sl_L, sl_T, isNon, Option.map, List.set, and_self, if_true, if_false, Bool.false_eq_true, Bool.not_true, Bool.not_false, List.length, List.length_cons, List.length_nil, eq_self, Nat.zero_add, Nat.reduceAdd, Nat.reduceLeDiff, Option.bind_some, Option.isSome_some, decide_true, decide_false, List.length_map, seqOf, f_signs_is_weight, b_signs_is_weight, A_g_signs_MOST_WEIGHT, d_nonzero, h1, h2, h3, Bool.and_self]
theorem d_checkw [H_signs_check_weight I L fs] (w : Int) (k : Nat) (G : Hh) (hk : 5 ≤ k) (h0 : w ≠ 0) (hw : w.natAbs ≤ 99) : run L fs k I.signs_check_weight [.int w] G = .ok .non G := by
  obtain ⟨k, rfl⟩ : ∃ m, k = m + 1 := ⟨k - 1, by omega⟩
  rw [run_at (A_signs_check_weight L) rfl k _ G rfl]
  simp (disch := first | assumption | omega) only [List.map, List.map_cons, List.map_nil, Nat.reduceSub, List.replicate, List.cons_append, List.nil_append, List.append_nil, xs_cons, xs_nil, x_ret, x_asg, x_par, x_unp, x_drop, x_cond, x_loop, x_wh, x_raise1, x_setL, x_setF, x_app, x_try, e_fld, e_meth, e_lstT, g_nm, g_nil, IG.len, e_non, e_bl, e_int, e_str, e_v, e_g, e_op, e_neg, e_cmp, e_chain, e_and, e_or, e_not, e_ife, e_tup, e_lstF, e_ix, e_sl, e_call, e_bi, e_lc, e_isT, e_inG, e_ixG, es_nil, es_cons, es_star, o_no, o_yes, t_yes, t_and, t_or, t_not, t_val, t_tru, i_seq, i_r1, i_r2, i_enum, getS0, getSs, ofO_s, bindOk, bindEx, thnOk, thnEx, sthnNx, sthnRt, sthnEx, noexOk, endK_rt, endK_nx, endK_ex, c_eq_i, c_ne_i, c_eq_s, c_ne_s, c_lt, c_le, c_gt, c_ge, c_isN, c_notN, o_add, o_sub, o_mul, o_mod, o_div, o_addL, o_addT, tru_bl, tru_i, e_callK, e_callV, e_dct, e_mk, x_par3, x_setD, x_raise0, bi_lenT, bi_lenL, bi_min, bi_min2, bi_max2, bi_abs, bi_int, bi_intb, bi_tupL, bi_tupT, bi_lstT, bi_lstL, sl_L, sl_T, isNon, Option.map, List.set, and_self, if_true, if_false, Bool.false_eq_true, Bool.not_true, Bool.not_false, List.length, List.length_cons, List.length_nil, eq_self, Nat.zero_add, Nat.reduceAdd, Nat.reduceLeDiff, Option.bind_some, Option.isSome_some, decide_true, decide_false, List.length_map, seqOf, f_signs_check_weight, b_signs_check_weight, d_weight]
theorem d_number0 [H_values_is_number I L fs] (i : Nat) (k : Nat) (G : Hh) (hk : 2 ≤ k) : run L fs k I.values_is_number [.int (i : Nat), .int 0, .non] G = .ok (.bl true) G := by
  obtain ⟨k, rfl⟩ : ∃ m, k = m + 1 := ⟨k - 1, by omega⟩
  rw [run_at (A_values_is_number L) rfl k _ G rfl]
  have h1 : decide ((0 : Int) ≤ (i : Nat)) = true := decide_eq_true (by omega)
  simp (disch := first | assumption | omega) only [List.map, List.map_cons, List.map_nil, Nat.reduceSub, List.replicate, List.cons_append, List.nil_append, List.append_nil, xs_cons, xs_nil, x_ret, x_asg, x_par, x_unp, x_drop, x_cond, x_loop, x_wh, x_raise1, x_setL, x_setF, x_app, x_try, e_fld, e_meth, e_lstT, g_nm, g_nil, IG.len, e_non, e_bl, e_int, e_str, e_v, e_g, e_op, e_neg, e_cmp, e_chain, e_and, e_or, e_not, e_ife, e_tup, e_lstF, e_ix, e_sl, e_call, e_bi, e_lc, e_isT, e_inG, e_ixG, es_nil, es_cons, es_star, o_no, o_yes, t_yes, t_and, t_or, t_not, t_val, t_tru, i_seq, i_r1, i_r2, i_enum, getS0, getSs, ofO_s, bindOk, bindEx, thnOk, thnEx, sthnNx, sthnRt, sthnEx, noexOk, endK_rt, endK_nx, endK_ex, c_eq_i, c_ne_i, c_eq_s, c_ne_s, c_lt, c_le, c_gt, c_ge, c_isN, c_notN, o_add, o_sub, o_mul, o_mod, o_div, o_addL, o_addT, tru_bl, tru_i, e_callK, e_callV, e_dct, e_mk, x_par3, x_setD, x_raise0, bi_lenT, bi_lenL, bi_min, bi_min2, bi_max2, bi_abs, bi_int, bi_intb, bi_tupL, bi_tupT, bi_lstT, bi_lstL, sl_L, sl_T, isNon, Option.map, List.set, and_self, if_true, if_false, Bool.false_eq_true, Bool.not_true, Bool.not_false, List.length, List.length_cons, List.length_nil, eq_self, Nat.zero_add, Nat.reduceAdd, Nat.reduceLeDiff, Option.bind_some, Option.isSome_some, decide_true, decide_false, List.length_map, seqOf, f_values_is_number, b_values_is_number, d_whole, h1]
theorem d_string [H_values_is_string I L fs] (s : Str) (k : Nat) (G : Hh) (hk : 1 ≤ k) : run L fs k I.values_is_string [.str s] G = .ok (.bl true) G := by
  obtain ⟨k, rfl⟩ : ∃ m, k = m + 1 := ⟨k - 1, by omega⟩
  rw [run_at (A_values_is_string L) rfl k _ G rfl]
  rfl
theorem d_hasform [H_desks_has_form I L fs] (d : Deed) (k : Nat) (G : Hh) (hk : 2 ≤ k) : run L fs k I.desks_has_form [d.W] G = .ok (.bl true) G := by
  obtain ⟨k, rfl⟩ : ∃ m, k = m + 1 := ⟨k - 1, by omega⟩
  rw [run_at (A_desks_has_form L) rfl k _ G rfl]
  have h2 : (((2 : Nat) : Int) == 0) = false := rfl
  have h3 : (((3 : Nat) : Int) == 0) = false := rfl
  have h4 : (((2 : Nat) : Int) == 2) = true := rfl
  have h5 : (((3 : Nat) : Int) == 3) = true := rfl
  cases d <;> simp (disch := first | assumption | omega) only [List.map, List.map_cons, List.map_nil, Nat.reduceSub, List.replicate, List.cons_append, List.nil_append, List.append_nil, xs_cons, xs_nil, x_ret, x_asg, x_par, x_unp, x_drop, x_cond, x_loop, x_wh, x_raise1, x_setL, x_setF, x_app, x_try, e_fld, e_meth, e_lstT, g_nm, g_nil, IG.len, e_non, e_bl, e_int, e_str, e_v, e_g, e_op, e_neg, e_cmp, e_chain, e_and, e_or, e_not, e_ife, e_tup, e_lstF, e_ix, e_sl, e_call, e_bi, e_lc, e_isT, e_inG, e_ixG, es_nil, es_cons, es_star, o_no, o_yes, t_yes, t_and, t_or, t_not, t_val, t_tru, i_seq, i_r1, i_r2, i_enum, getS0, getSs, ofO_s, bindOk, bindEx, thnOk, thnEx, sthnNx, sthnRt, sthnEx, noexOk, endK_rt, endK_nx, endK_ex, c_eq_i, c_ne_i, c_eq_s, c_ne_s, c_lt, c_le, c_gt, c_ge, c_isN, c_notN, o_add, o_sub, o_mul, o_mod, o_div, o_addL, o_addT, tru_bl, tru_i, e_callK, e_callV, e_dct, e_mk, x_par3, x_setD, x_raise0, bi_lenT, bi_lenL, bi_min, bi_min2, bi_max2, bi_abs, bi_int, bi_intb, bi_tupL, bi_tupT, bi_lstT, bi_lstL, sl_L, sl_T, isNon, Option.map, List.set, and_self, if_true, if_false, Bool.false_eq_true, Bool.not_true, Bool.not_false, List.length, List.length_cons, List.length_nil, eq_self, Nat.zero_add, Nat.reduceAdd, Nat.reduceLeDiff, Option.bind_some, Option.isSome_some, decide_true, decide_false, List.length_map, seqOf, f_desks_has_form, b_desks_has_form, Deed.W, tyW, tqB, ix0, h2, h3, d_string, A_d_desks_SIZES, List.any_cons, List.any_nil, List.find?_cons, s_pp, s_kp, s_np, s_pn, s_kn, s_nn, s_pk, s_kk, s_nk, h4, h5, Bool.true_or, Bool.or_true, Bool.or_false, Bool.false_or] <;> rfl
theorem d_checkdeed [H_desks_check_deed I L fs] (d : Deed) (k : Nat) (G : Hh) (hk : 6 ≤ k) (hd : d.ok 99) : run L fs k I.desks_check_deed [d.W] G = .ok .non G := by
  obtain ⟨k, rfl⟩ : ∃ m, k = m + 1 := ⟨k - 1, by omega⟩
  rw [run_at (A_desks_check_deed L) rfl k _ G rfl]
  have r := d_hasform (I := I) (L := L) (fs := fs) d k G (by omega)
  cases d with
  | tk i => unfold Deed.W at *; simp (disch := first | assumption | omega) only [List.map, List.map_cons, List.map_nil, Nat.reduceSub, List.replicate, List.cons_append, List.nil_append, List.append_nil, xs_cons, xs_nil, x_ret, x_asg, x_par, x_unp, x_drop, x_cond, x_loop, x_wh, x_raise1, x_setL, x_setF, x_app, x_try, e_fld, e_meth, e_lstT, g_nm, g_nil, IG.len, e_non, e_bl, e_int, e_str, e_v, e_g, e_op, e_neg, e_cmp, e_chain, e_and, e_or, e_not, e_ife, e_tup, e_lstF, e_ix, e_sl, e_call, e_bi, e_lc, e_isT, e_inG, e_ixG, es_nil, es_cons, es_star, o_no, o_yes, t_yes, t_and, t_or, t_not, t_val, t_tru, i_seq, i_r1, i_r2, i_enum, getS0, getSs, ofO_s, bindOk, bindEx, thnOk, thnEx, sthnNx, sthnRt, sthnEx, noexOk, endK_rt, endK_nx, endK_ex, c_eq_i, c_ne_i, c_eq_s, c_ne_s, c_lt, c_le, c_gt, c_ge, c_isN, c_notN, o_add, o_sub, o_mul, o_mod, o_div, o_addL, o_addT, tru_bl, tru_i, e_callK, e_callV, e_dct, e_mk, x_par3, x_setD, x_raise0, bi_lenT, bi_lenL, bi_min, bi_min2, bi_max2, bi_abs, bi_int, bi_intb, bi_tupL, bi_tupT, bi_lstT, bi_lstL, sl_L, sl_T, isNon, Option.map, List.set, and_self, if_true, if_false, Bool.false_eq_true, Bool.not_true, Bool.not_false, List.length, List.length_cons, List.length_nil, eq_self, Nat.zero_add, Nat.reduceAdd, Nat.reduceLeDiff, Option.bind_some, Option.isSome_some, decide_true, decide_false, List.length_map, seqOf, f_desks_check_deed, b_desks_check_deed, r, ix0, ix1, s_kp, s_kn, d_number0]
  | tn i w =>
    obtain ⟨h1, h2, h3⟩ := hd
    unfold Deed.W at *
    simp (disch := first | assumption | omega) only [List.map, List.map_cons, List.map_nil, Nat.reduceSub, List.replicate, List.cons_append, List.nil_append, List.append_nil, xs_cons, xs_nil, x_ret, x_asg, x_par, x_unp, x_drop, x_cond, x_loop, x_wh, x_raise1, x_setL, x_setF, x_app, x_try, e_fld, e_meth, e_lstT, g_nm, g_nil, IG.len, e_non, e_bl, e_int, e_str, e_v, e_g, e_op, e_neg, e_cmp, e_chain, e_and, e_or, e_not, e_ife, e_tup, e_lstF, e_ix, e_sl, e_call, e_bi, e_lc, e_isT, e_inG, e_ixG, es_nil, es_cons, es_star, o_no, o_yes, t_yes, t_and, t_or, t_not, t_val, t_tru, i_seq, i_r1, i_r2, i_enum, getS0, getSs, ofO_s, bindOk, bindEx, thnOk, thnEx, sthnNx, sthnRt, sthnEx, noexOk, endK_rt, endK_nx, endK_ex, c_eq_i, c_ne_i, c_eq_s, c_ne_s, c_lt, c_le, c_gt, c_ge, c_isN, c_notN, o_add, o_sub, o_mul, o_mod, o_div, o_addL, o_addT, tru_bl, tru_i, e_callK, e_callV, e_dct, e_mk, x_par3, x_setD, x_raise0, bi_lenT, bi_lenL, bi_min, bi_min2, bi_max2, bi_abs, bi_int, bi_intb, bi_tupL, bi_tupT, bi_lstT, bi_lstL, sl_L, sl_T, isNon, Option.map, List.set, and_self, if_true, if_false, Bool.false_eq_true, Bool.not_true, Bool.not_false, List.length, List.length_cons, List.length_nil, eq_self, Nat.zero_add, Nat.reduceAdd, Nat.reduceLeDiff, Option.bind_some, Option.isSome_some, decide_true, decide_false, List.length_map, seqOf, f_desks_check_deed, b_desks_check_deed, r, ix0, ix1, ix2, s_np, s_nn, d_number0, d_weight]
  | pt w =>
    obtain ⟨h2, h3⟩ := hd
    unfold Deed.W at *
    simp (disch := first | assumption | omega) only [List.map, List.map_cons, List.map_nil, Nat.reduceSub, List.replicate, List.cons_append, List.nil_append, List.append_nil, xs_cons, xs_nil, x_ret, x_asg, x_par, x_unp, x_drop, x_cond, x_loop, x_wh, x_raise1, x_setL, x_setF, x_app, x_try, e_fld, e_meth, e_lstT, g_nm, g_nil, IG.len, e_non, e_bl, e_int, e_str, e_v, e_g, e_op, e_neg, e_cmp, e_chain, e_and, e_or, e_not, e_ife, e_tup, e_lstF, e_ix, e_sl, e_call, e_bi, e_lc, e_isT, e_inG, e_ixG, es_nil, es_cons, es_star, o_no, o_yes, t_yes, t_and, t_or, t_not, t_val, t_tru, i_seq, i_r1, i_r2, i_enum, getS0, getSs, ofO_s, bindOk, bindEx, thnOk, thnEx, sthnNx, sthnRt, sthnEx, noexOk, endK_rt, endK_nx, endK_ex, c_eq_i, c_ne_i, c_eq_s, c_ne_s, c_lt, c_le, c_gt, c_ge, c_isN, c_notN, o_add, o_sub, o_mul, o_mod, o_div, o_addL, o_addT, tru_bl, tru_i, e_callK, e_callV, e_dct, e_mk, x_par3, x_setD, x_raise0, bi_lenT, bi_lenL, bi_min, bi_min2, bi_max2, bi_abs, bi_int, bi_intb, bi_tupL, bi_tupT, bi_lstT, bi_lstL, sl_L, sl_T, isNon, Option.map, List.set, and_self, if_true, if_false, Bool.false_eq_true, Bool.not_true, Bool.not_false, List.length, List.length_cons, List.length_nil, eq_self, Nat.zero_add, Nat.reduceAdd, Nat.reduceLeDiff, Option.bind_some, Option.isSome_some, decide_true, decide_false, List.length_map, seqOf, f_desks_check_deed, b_desks_check_deed, r, ix0, ix1, s_pp, s_pn, d_weight]
theorem d_behind [H_desks_form_behind I L fs] (form : List Int) (d : Deed) (k : Nat) (G : Hh) (hk : 1 ≤ k) (hl : form.length ≤ 1000) : run L fs k I.desks_form_behind [iT form, d.W] G = .ok (iT (after form d)) G := by
  obtain ⟨k, rfl⟩ : ∃ m, k = m + 1 := ⟨k - 1, by omega⟩
  rw [run_at (A_desks_form_behind L) rfl k _ G rfl]
  cases d with
  | tk i =>
    have h1 : (form.take i ++ form.drop (i + 1)).length ≤ 1000000 := by simp; omega
    have h2 : (form.map W.int).take i ++ (form.map W.int).drop (i + 1) = (form.take i ++ form.drop (i + 1)).map W.int := by simp
    unfold Deed.W
    simp (disch := first | assumption | omega) only [List.map, List.map_cons, List.map_nil, Nat.reduceSub, List.replicate, List.cons_append, List.nil_append, List.append_nil, xs_cons, xs_nil, x_ret, x_asg, x_par, x_unp, x_drop, x_cond, x_loop, x_wh, x_raise1, x_setL, x_setF, x_app, x_try, e_fld, e_meth, e_lstT, g_nm, g_nil, IG.len, e_non, e_bl, e_int, e_str, e_v, e_g, e_op, e_neg, e_cmp, e_chain, e_and, e_or, e_not, e_ife, e_tup, e_lstF, e_ix, e_sl, e_call, e_bi, e_lc, e_isT, e_inG, e_ixG, es_nil, es_cons, es_star, o_no, o_yes, t_yes, t_and, t_or, t_not, t_val, t_tru, i_seq, i_r1, i_r2, i_enum, getS0, getSs, ofO_s, bindOk, bindEx, thnOk, thnEx, sthnNx, sthnRt, sthnEx, noexOk, endK_rt, endK_nx, endK_ex, c_eq_i, c_ne_i, c_eq_s, c_ne_s, c_lt, c_le, c_gt, c_ge, c_isN, c_notN, o_add, o_sub, o_mul, o_mod, o_div, o_addL, o_addT, tru_bl, tru_i, e_callK, e_callV, e_dct, e_mk, x_par3, x_setD, x_raise0, bi_lenT, bi_lenL, bi_min, bi_min2, bi_max2, bi_abs, bi_int, bi_intb, bi_tupL, bi_tupT, bi_lstT, bi_lstL, sl_L, sl_T, isNon, Option.map, List.set, and_self, if_true, if_false, Bool.false_eq_true, Bool.not_true, Bool.not_false, List.length, List.length_cons, List.length_nil, eq_self, Nat.zero_add, Nat.reduceAdd, Nat.reduceLeDiff, Option.bind_some, Option.isSome_some, decide_true, decide_false, List.length_map, seqOf, f_desks_form_behind, b_desks_form_behind, ix0, ix1, s_kp, s_kk, cut_lo, cut_hi1, h1, h2, after]
  | tn i w =>
    have h1 : (form.take i ++ [w] ++ form.drop (i + 1)).length ≤ 1000000 := by simp; omega
    have h2 : (form.map W.int).take i ++ W.int w :: (form.map W.int).drop (i + 1) = (form.take i ++ [w] ++ form.drop (i + 1)).map W.int := by simp
    unfold Deed.W
    simp (disch := first | assumption | omega) only [List.map, List.map_cons, List.map_nil, Nat.reduceSub, List.replicate, List.cons_append, List.nil_append, List.append_nil, xs_cons, xs_nil, x_ret, x_asg, x_par, x_unp, x_drop, x_cond, x_loop, x_wh, x_raise1, x_setL, x_setF, x_app, x_try, e_fld, e_meth, e_lstT, g_nm, g_nil, IG.len, e_non, e_bl, e_int, e_str, e_v, e_g, e_op, e_neg, e_cmp, e_chain, e_and, e_or, e_not, e_ife, e_tup, e_lstF, e_ix, e_sl, e_call, e_bi, e_lc, e_isT, e_inG, e_ixG, es_nil, es_cons, es_star, o_no, o_yes, t_yes, t_and, t_or, t_not, t_val, t_tru, i_seq, i_r1, i_r2, i_enum, getS0, getSs, ofO_s, bindOk, bindEx, thnOk, thnEx, sthnNx, sthnRt, sthnEx, noexOk, endK_rt, endK_nx, endK_ex, c_eq_i, c_ne_i, c_eq_s, c_ne_s, c_lt, c_le, c_gt, c_ge, c_isN, c_notN, o_add, o_sub, o_mul, o_mod, o_div, o_addL, o_addT, tru_bl, tru_i, e_callK, e_callV, e_dct, e_mk, x_par3, x_setD, x_raise0, bi_lenT, bi_lenL, bi_min, bi_min2, bi_max2, bi_abs, bi_int, bi_intb, bi_tupL, bi_tupT, bi_lstT, bi_lstL, sl_L, sl_T, isNon, Option.map, List.set, and_self, if_true, if_false, Bool.false_eq_true, Bool.not_true, Bool.not_false, List.length, List.length_cons, List.length_nil, eq_self, Nat.zero_add, Nat.reduceAdd, Nat.reduceLeDiff, Option.bind_some, Option.isSome_some, decide_true, decide_false, List.length_map, seqOf, f_desks_form_behind, b_desks_form_behind, ix0, ix1, ix2, s_np, s_nk, cut_lo, cut_hi1, h2, h1, after]
  | pt w =>
    have h1 : (form ++ [w]).length ≤ 1000000 := by simp; omega
    have h2 : form.map W.int ++ [W.int w] = (form ++ [w]).map W.int := by simp
    unfold Deed.W
    simp (disch := first | assumption | omega) only [List.map, List.map_cons, List.map_nil, Nat.reduceSub, List.replicate, List.cons_append, List.nil_append, List.append_nil, xs_cons, xs_nil, x_ret, x_asg, x_par, x_unp, x_drop, x_cond, x_loop, x_wh, x_raise1, x_setL, x_setF, x_app, x_try, e_fld, e_meth, e_lstT, g_nm, g_nil, IG.len, e_non, e_bl, e_int, e_str, e_v, e_g, e_op, e_neg, e_cmp, e_chain, e_and, e_or, e_not, e_ife, e_tup, e_lstF, e_ix, e_sl, e_call, e_bi, e_lc, e_isT, e_inG, e_ixG, es_nil, es_cons, es_star, o_no, o_yes, t_yes, t_and, t_or, t_not, t_val, t_tru, i_seq, i_r1, i_r2, i_enum, getS0, getSs, ofO_s, bindOk, bindEx, thnOk, thnEx, sthnNx, sthnRt, sthnEx, noexOk, endK_rt, endK_nx, endK_ex, c_eq_i, c_ne_i, c_eq_s, c_ne_s, c_lt, c_le, c_gt, c_ge, c_isN, c_notN, o_add, o_sub, o_mul, o_mod, o_div, o_addL, o_addT, tru_bl, tru_i, e_callK, e_callV, e_dct, e_mk, x_par3, x_setD, x_raise0, bi_lenT, bi_lenL, bi_min, bi_min2, bi_max2, bi_abs, bi_int, bi_intb, bi_tupL, bi_tupT, bi_lstT, bi_lstL, sl_L, sl_T, isNon, Option.map, List.set, and_self, if_true, if_false, Bool.false_eq_true, Bool.not_true, Bool.not_false, List.length, List.length_cons, List.length_nil, eq_self, Nat.zero_add, Nat.reduceAdd, Nat.reduceLeDiff, Option.bind_some, Option.isSome_some, decide_true, decide_false, List.length_map, seqOf, f_desks_form_behind, b_desks_form_behind, ix0, ix1, s_pp, h2, h1, after]
theorem e_after [H_lawE_after I L fs] (form : List Int) (d : Deed) (k : Nat) (G : Hh) (hk : 1 ≤ k) (hl : form.length ≤ 1000) : run L fs k I.lawE_after [iT form, d.W] G = .ok (iT (after form d)) G := by
  obtain ⟨k, rfl⟩ : ∃ m, k = m + 1 := ⟨k - 1, by omega⟩
  rw [run_at (A_lawE_after L) rfl k _ G rfl]
  have o1 : ∀ (a b : List W) G, a.length ≤ 10000 → b.length ≤ 10000 → evOp .add (.tup a) (.tup b) G = .ok (.tup (a ++ b)) G := fun a b G h1 h2 => o_addT a b G (by omega)
  cases d with
  | tk i =>
    have h1 : ((form.map W.int).take i).length ≤ 5000 := by simp; omega
    have h2 : ((form.map W.int).drop (i + 1)).length ≤ 5000 := by simp; omega
    have q1 := fun G => o1 ((form.map W.int).take i) [] G (by omega) (by simp)
    have q2 := fun G => o1 ((form.map W.int).take i) ((form.map W.int).drop (i + 1)) G (by omega) (by omega)
    have h3 : (form.map W.int).take i ++ (form.map W.int).drop (i + 1) = (form.take i ++ form.drop (i + 1)).map W.int := by simp
    unfold Deed.W
    simp (disch := first | assumption | omega) only [List.map, List.map_cons, List.map_nil, Nat.reduceSub, List.replicate, List.cons_append, List.nil_append, List.append_nil, xs_cons, xs_nil, x_ret, x_asg, x_par, x_unp, x_drop, x_cond, x_loop, x_wh, x_raise1, x_setL, x_setF, x_app, x_try, e_fld, e_meth, e_lstT, g_nm, g_nil, IG.len, e_non, e_bl, e_int, e_str, e_v, e_g, e_op, e_neg, e_cmp, e_chain, e_and, e_or, e_not, e_ife, e_tup, e_lstF, e_ix, e_sl, e_call, e_bi, e_lc, e_isT, e_inG, e_ixG, es_nil, es_cons, es_star, o_no, o_yes, t_yes, t_and, t_or, t_not, t_val, t_tru, i_seq, i_r1, i_r2, i_enum, getS0, getSs, ofO_s, bindOk, bindEx, thnOk, thnEx, sthnNx, sthnRt, sthnEx, noexOk, endK_rt, endK_nx, endK_ex, c_eq_i, c_ne_i, c_eq_s, c_ne_s, c_lt, c_le, c_gt, c_ge, c_isN, c_notN, o_add, o_sub, o_mul, o_mod, o_div, o_addL, o_addT, tru_bl, tru_i, e_callK, e_callV, e_dct, e_mk, x_par3, x_setD, x_raise0, bi_lenT, bi_lenL, bi_min, bi_min2, bi_max2, bi_abs, bi_int, bi_intb, bi_tupL, bi_tupT, bi_lstT, bi_lstL, sl_L, sl_T, isNon, Option.map, List.set, and_self, if_true, if_false, Bool.false_eq_true, Bool.not_true, Bool.not_false, List.length, List.length_cons, List.length_nil, eq_self, Nat.zero_add, Nat.reduceAdd, Nat.reduceLeDiff, Option.bind_some, Option.isSome_some, decide_true, decide_false, List.length_map, seqOf, f_lawE_after, b_lawE_after, ix0, ix1, s_kp, s_kn, cut_lo, cut_hi1, q1, q2, h3, after]
  | tn i w =>
    have h1 : ((form.map W.int).take i).length ≤ 5000 := by simp; omega
    have h2 : ((form.map W.int).drop (i + 1)).length ≤ 5000 := by simp; omega
    have q1 := fun G => o1 ((form.map W.int).take i) [W.int w] G (by omega) (by simp)
    have q2 := fun G => o1 ((form.map W.int).take i ++ [W.int w]) ((form.map W.int).drop (i + 1)) G (by simp; omega) (by omega)
    have h3 : (form.map W.int).take i ++ [W.int w] ++ (form.map W.int).drop (i + 1) = (form.take i ++ [w] ++ form.drop (i + 1)).map W.int := by simp
    unfold Deed.W
    simp (disch := first | assumption | omega) only [List.map, List.map_cons, List.map_nil, Nat.reduceSub, List.replicate, List.cons_append, List.nil_append, List.append_nil, xs_cons, xs_nil, x_ret, x_asg, x_par, x_unp, x_drop, x_cond, x_loop, x_wh, x_raise1, x_setL, x_setF, x_app, x_try, e_fld, e_meth, e_lstT, g_nm, g_nil, IG.len, e_non, e_bl, e_int, e_str, e_v, e_g, e_op, e_neg, e_cmp, e_chain, e_and, e_or, e_not, e_ife, e_tup, e_lstF, e_ix, e_sl, e_call, e_bi, e_lc, e_isT, e_inG, e_ixG, es_nil, es_cons, es_star, o_no, o_yes, t_yes, t_and, t_or, t_not, t_val, t_tru, i_seq, i_r1, i_r2, i_enum, getS0, getSs, ofO_s, bindOk, bindEx, thnOk, thnEx, sthnNx, sthnRt, sthnEx, noexOk, endK_rt, endK_nx, endK_ex, c_eq_i, c_ne_i, c_eq_s, c_ne_s, c_lt, c_le, c_gt, c_ge, c_isN, c_notN, o_add, o_sub, o_mul, o_mod, o_div, o_addL, o_addT, tru_bl, tru_i, e_callK, e_callV, e_dct, e_mk, x_par3, x_setD, x_raise0, bi_lenT, bi_lenL, bi_min, bi_min2, bi_max2, bi_abs, bi_int, bi_intb, bi_tupL, bi_tupT, bi_lstT, bi_lstL, sl_L, sl_T, isNon, Option.map, List.set, and_self, if_true, if_false, Bool.false_eq_true, Bool.not_true, Bool.not_false, List.length, List.length_cons, List.length_nil, eq_self, Nat.zero_add, Nat.reduceAdd, Nat.reduceLeDiff, Option.bind_some, Option.isSome_some, decide_true, decide_false, List.length_map, seqOf, f_lawE_after, b_lawE_after, ix0, ix1, ix2, s_np, s_nn, cut_lo, cut_hi1, q1, q2, h3, after]
  | pt w =>
    have q1 := fun G => o1 (form.map W.int) [W.int w] G (by simp; omega) (by simp)
    have h3 : form.map W.int ++ [W.int w] = (form ++ [w]).map W.int := by simp
    unfold Deed.W
    simp (disch := first | assumption | omega) only [List.map, List.map_cons, List.map_nil, Nat.reduceSub, List.replicate, List.cons_append, List.nil_append, List.append_nil, xs_cons, xs_nil, x_ret, x_asg, x_par, x_unp, x_drop, x_cond, x_loop, x_wh, x_raise1, x_setL, x_setF, x_app, x_try, e_fld, e_meth, e_lstT, g_nm, g_nil, IG.len, e_non, e_bl, e_int, e_str, e_v, e_g, e_op, e_neg, e_cmp, e_chain, e_and, e_or, e_not, e_ife, e_tup, e_lstF, e_ix, e_sl, e_call, e_bi, e_lc, e_isT, e_inG, e_ixG, es_nil, es_cons, es_star, o_no, o_yes, t_yes, t_and, t_or, t_not, t_val, t_tru, i_seq, i_r1, i_r2, i_enum, getS0, getSs, ofO_s, bindOk, bindEx, thnOk, thnEx, sthnNx, sthnRt, sthnEx, noexOk, endK_rt, endK_nx, endK_ex, c_eq_i, c_ne_i, c_eq_s, c_ne_s, c_lt, c_le, c_gt, c_ge, c_isN, c_notN, o_add, o_sub, o_mul, o_mod, o_div, o_addL, o_addT, tru_bl, tru_i, e_callK, e_callV, e_dct, e_mk, x_par3, x_setD, x_raise0, bi_lenT, bi_lenL, bi_min, bi_min2, bi_max2, bi_abs, bi_int, bi_intb, bi_tupL, bi_tupT, bi_lstT, bi_lstL, sl_L, sl_T, isNon, Option.map, List.set, and_self, if_true, if_false, Bool.false_eq_true, Bool.not_true, Bool.not_false, List.length, List.length_cons, List.length_nil, eq_self, Nat.zero_add, Nat.reduceAdd, Nat.reduceLeDiff, Option.bind_some, Option.isSome_some, decide_true, decide_false, List.length_map, seqOf, f_lawE_after, b_lawE_after, ix0, ix1, s_pp, q1, h3, after]
end
end PI
end

section
set_option autoImplicit false
set_option maxHeartbeats 4000000
/-! S8: family E's draws. -/
namespace PI
open PySem (Str PyData)
open NF
def PoolAt (G : Hh) (n : Nat) : Prop := ∃ a b c : Int, G[n]? = some (.lst [.int a, .int b, .int c])
def Stir (n : Nat) (G G' : Hh) : Prop := ∃ a b c : Int, G' = G.set n (.lst [.int a, .int b, .int c])
theorem PoolAt.lt {G : Hh} {n : Nat} (h : PoolAt G n) : n < G.length := by
  obtain ⟨a, b, c, h⟩ := h
  exact (List.getElem?_eq_some_iff.mp h).1
theorem Stir.pool {G G' : Hh} {n : Nat} (h : PoolAt G n) (s : Stir n G G') : PoolAt G' n := by
  obtain ⟨a, b, c, rfl⟩ := s
  exact ⟨a, b, c, by rw [List.getElem?_set_self h.lt]⟩
theorem Stir.trans {G G' G2 : Hh} {n : Nat} (s : Stir n G G') (t : Stir n G' G2) : Stir n G G2 := by
  obtain ⟨a, b, c, rfl⟩ := s
  obtain ⟨a', b', c', rfl⟩ := t
  exact ⟨a', b', c', by rw [List.set_set]⟩
theorem Stir.other {G G' : Hh} {n j : Nat} (s : Stir n G G') (h : n ≠ j) : G'[j]? = G[j]? := by
  obtain ⟨a, b, c, rfl⟩ := s
  rw [List.getElem?_set_ne h]
theorem Stir.len {G G' : Hh} {n : Nat} (s : Stir n G G') : G'.length = G.length := by
  obtain ⟨a, b, c, rfl⟩ := s
  rw [List.length_set]
section
variable {G : Hh} {n : Nat} {a b c : Int}
theorem px0 (h : G[n]? = some (.lst [.int a, .int b, .int c])) : evIx (.ref n) (.int 0) G = some (.int a) := by simp only [evIx, seqOf, h]; rfl
theorem px1 (h : G[n]? = some (.lst [.int a, .int b, .int c])) : evIx (.ref n) (.int 1) G = some (.int b) := by simp only [evIx, seqOf, h]; rfl
theorem px2 (h : G[n]? = some (.lst [.int a, .int b, .int c])) : evIx (.ref n) (.int 2) G = some (.int c) := by simp only [evIx, seqOf, h]; rfl
theorem ps0 (h : G[n]? = some (.lst [.int a, .int b, .int c])) (z : W) (ρ : Rho) : evSet (.ref n) (.int 0) z ρ G = .nx ρ (G.set n (.lst [z, .int b, .int c])) := by simp only [evSet, lstOf, h]; rfl
theorem ps1 (h : G[n]? = some (.lst [.int a, .int b, .int c])) (z : W) (ρ : Rho) : evSet (.ref n) (.int 1) z ρ G = .nx ρ (G.set n (.lst [.int a, z, .int c])) := by simp only [evSet, lstOf, h]; rfl
theorem ps2 (h : G[n]? = some (.lst [.int a, .int b, .int c])) (z : W) (ρ : Rho) : evSet (.ref n) (.int 2) z ρ G = .nx ρ (G.set n (.lst [.int a, .int b, z])) := by simp only [evSet, lstOf, h]; rfl
end
theorem bi_dm (a b : Int) (G : Hh) (h : 0 < b ∧ b < 1073741824) : evBi .divmod [.int a, .int b] G = some (.tup [.int (a / b), .int (a % b)]) := by
  simp only [evBi, ev2, onI]
  rw [if_pos h]
section
variable {I : Ix} {L : Lib} {fs : List Fn}
theorem e_draw [H_lawE_draw I L fs] {G : Hh} {n : Nat} {m : Int} (hP : PoolAt G n) (hm : 1 ≤ m) (hm2 : m < 1073741824) : ∃ (d : Int) (G' : Hh), 0 ≤ d ∧ d < m ∧ Stir n G G' ∧ ∀ k, 1 ≤ k → run L fs k I.lawE_draw [.ref n, .int m] G = .ok (.int d) G' := by
  have hlt := hP.lt
  obtain ⟨a, b, c, h⟩ := hP
  by_cases hb : 0 < b
  · refine ⟨b % m, _, Int.emod_nonneg _ (by omega), Int.emod_lt_of_pos _ (by omega), ⟨a, b / m, c, rfl⟩, fun k hk => ?_⟩
    obtain ⟨k, rfl⟩ : ∃ m, k = m + 1 := ⟨k - 1, by omega⟩
    rw [run_at (A_lawE_draw L) rfl k _ G rfl]
    have hd : decide (0 < b) = true := decide_eq_true hb
    simp (disch := first | assumption | omega) only [List.map, List.map_cons, List.map_nil, Nat.reduceSub, List.replicate, List.cons_append, List.nil_append, List.append_nil, xs_cons, xs_nil, x_ret, x_asg, x_par, x_unp, x_drop, x_cond, x_loop, x_wh, x_raise1, x_setL, x_setF, x_app, x_try, e_fld, e_meth, e_lstT, g_nm, g_nil, IG.len, e_non, e_bl, e_int, e_str, e_v, e_g, e_op, e_neg, e_cmp, e_chain, e_and, e_or, e_not, e_ife, e_tup, e_lstF, e_ix, e_sl, e_call, e_bi, e_lc, e_isT, e_inG, e_ixG, es_nil, es_cons, es_star, o_no, o_yes, t_yes, t_and, t_or, t_not, t_val, t_tru, i_seq, i_r1, i_r2, i_enum, getS0, getSs, ofO_s, bindOk, bindEx, thnOk, thnEx, sthnNx, sthnRt, sthnEx, noexOk, endK_rt, endK_nx, endK_ex, c_eq_i, c_ne_i, c_eq_s, c_ne_s, c_lt, c_le, c_gt, c_ge, c_isN, c_notN, o_add, o_sub, o_mul, o_mod, o_div, o_addL, o_addT, tru_bl, tru_i, e_callK, e_callV, e_dct, e_mk, x_par3, x_setD, x_raise0, bi_lenT, bi_lenL, bi_min, bi_min2, bi_max2, bi_abs, bi_int, bi_intb, bi_tupL, bi_tupT, bi_lstT, bi_lstL, sl_L, sl_T, isNon, Option.map, List.set, and_self, if_true, if_false, Bool.false_eq_true, Bool.not_true, Bool.not_false, List.length, List.length_cons, List.length_nil, eq_self, Nat.zero_add, Nat.reduceAdd, Nat.reduceLeDiff, Option.bind_some, Option.isSome_some, decide_true, decide_false, List.length_map, seqOf, f_lawE_draw, b_lawE_draw, px1 h, hd, bi_dm, g_sub, ps1 h]
  · have hd : decide (0 < b) = false := decide_eq_false hb
    have h1 : (G.set n (.lst [.int a, .int b, .int (c + 1)]))[n]? = some (.lst [.int a, .int b, .int (c + 1)]) := List.getElem?_set_self hlt
    generalize hx : (a * (a % 20011 + 30011) + 70001 * (c + 1) + 9) % 2147482937 = x
    have h2 : ((G.set n (.lst [.int a, .int b, .int (c + 1)])).set n (.lst [.int x, .int b, .int (c + 1)]))[n]? = some (.lst [.int x, .int b, .int (c + 1)]) := List.getElem?_set_self (by rw [List.length_set]; exact hlt)
    have ha1 := Int.emod_nonneg a (show (20011 : Int) ≠ 0 by omega)
    have ha2 := Int.emod_lt_of_pos a (show (0 : Int) < 20011 by omega)
    refine ⟨x / 128 % m, _, Int.emod_nonneg _ (by omega), Int.emod_lt_of_pos _ (by omega), ⟨x, b, c + 1, rfl⟩, fun k hk => ?_⟩
    obtain ⟨k, rfl⟩ : ∃ m, k = m + 1 := ⟨k - 1, by omega⟩
    rw [run_at (A_lawE_draw L) rfl k _ G rfl]
    simp (disch := first | assumption | omega) only [List.map, List.map_cons, List.map_nil, Nat.reduceSub, List.replicate, List.cons_append, List.nil_append, List.append_nil, xs_cons, xs_nil, x_ret, x_asg, x_par, x_unp, x_drop, x_cond, x_loop, x_wh, x_raise1, x_setL, x_setF, x_app, x_try, e_fld, e_meth, e_lstT, g_nm, g_nil, IG.len, e_non, e_bl, e_int, e_str, e_v, e_g, e_op, e_neg, e_cmp, e_chain, e_and, e_or, e_not, e_ife, e_tup, e_lstF, e_ix, e_sl, e_call, e_bi, e_lc, e_isT, e_inG, e_ixG, es_nil, es_cons, es_star, o_no, o_yes, t_yes, t_and, t_or, t_not, t_val, t_tru, i_seq, i_r1, i_r2, i_enum, getS0, getSs, ofO_s, bindOk, bindEx, thnOk, thnEx, sthnNx, sthnRt, sthnEx, noexOk, endK_rt, endK_nx, endK_ex, c_eq_i, c_ne_i, c_eq_s, c_ne_s, c_lt, c_le, c_gt, c_ge, c_isN, c_notN, o_add, o_sub, o_mul, o_mod, o_div, o_addL, o_addT, tru_bl, tru_i, e_callK, e_callV, e_dct, e_mk, x_par3, x_setD, x_raise0, bi_lenT, bi_lenL, bi_min, bi_min2, bi_max2, bi_abs, bi_int, bi_intb, bi_tupL, bi_tupT, bi_lstT, bi_lstL, sl_L, sl_T, isNon, Option.map, List.set, and_self, if_true, if_false, Bool.false_eq_true, Bool.not_true, Bool.not_false, List.length, List.length_cons, List.length_nil, eq_self, Nat.zero_add, Nat.reduceAdd, Nat.reduceLeDiff, Option.bind_some, Option.isSome_some, decide_true, decide_false, List.length_map, seqOf, f_lawE_draw, b_lawE_draw, px1 h, hd, px2 h, ps2 h, px0 h1, px2 h1, hx, ps0 h1, px0 h2]
    rw [List.set_set]
theorem e_weight [H_lawE_weight I L fs] {G : Hh} {n : Nat} {m : Int} (hP : PoolAt G n) (h1 : 1 ≤ m) (h2 : m ≤ 1000) : ∃ (w : Int) (G' : Hh), w ≠ 0 ∧ (w.natAbs : Int) ≤ m ∧ Stir n G G' ∧ ∀ k, 2 ≤ k → run L fs k I.lawE_weight [.ref n, .int m] G = .ok (.int w) G' := by
  obtain ⟨d, G1, d0, dm, st, e⟩ := e_draw (I := I) (L := L) (fs := fs) (m := m) hP (by omega) (by omega)
  obtain ⟨d', G2, d0', dm', st', e'⟩ := e_draw (I := I) (L := L) (fs := fs) (m := 2) (st.pool hP) (by omega) (by omega)
  have hw : (1 + d) * (1 - 2 * d') = 1 + d ∨ (1 + d) * (1 - 2 * d') = -(1 + d) := by
    have : d' = 0 ∨ d' = 1 := by omega
    rcases this with rfl | rfl
    · left; simp
    · right; rw [show (1 : Int) - 2 * 1 = -1 from rfl, Int.mul_neg_one]
  refine ⟨(1 + d) * (1 - 2 * d'), G2, by omega, by omega, st.trans st', fun k hk => ?_⟩
  obtain ⟨k, rfl⟩ : ∃ m, k = m + 1 := ⟨k - 1, by omega⟩
  rw [run_at (A_lawE_weight L) rfl k _ G rfl]
  have r := e k (by omega)
  have r' := e' k (by omega)
  simp (disch := first | assumption | omega) only [List.map, List.map_cons, List.map_nil, Nat.reduceSub, List.replicate, List.cons_append, List.nil_append, List.append_nil, xs_cons, xs_nil, x_ret, x_asg, x_par, x_unp, x_drop, x_cond, x_loop, x_wh, x_raise1, x_setL, x_setF, x_app, x_try, e_fld, e_meth, e_lstT, g_nm, g_nil, IG.len, e_non, e_bl, e_int, e_str, e_v, e_g, e_op, e_neg, e_cmp, e_chain, e_and, e_or, e_not, e_ife, e_tup, e_lstF, e_ix, e_sl, e_call, e_bi, e_lc, e_isT, e_inG, e_ixG, es_nil, es_cons, es_star, o_no, o_yes, t_yes, t_and, t_or, t_not, t_val, t_tru, i_seq, i_r1, i_r2, i_enum, getS0, getSs, ofO_s, bindOk, bindEx, thnOk, thnEx, sthnNx, sthnRt, sthnEx, noexOk, endK_rt, endK_nx, endK_ex, c_eq_i, c_ne_i, c_eq_s, c_ne_s, c_lt, c_le, c_gt, c_ge, c_isN, c_notN, o_add, o_sub, o_mul, o_mod, o_div, o_addL, o_addT, tru_bl, tru_i, e_callK, e_callV, e_dct, e_mk, x_par3, x_setD, x_raise0, bi_lenT, bi_lenL, bi_min, bi_min2, bi_max2, bi_abs, bi_int, bi_intb, bi_tupL, bi_tupT, bi_lstT, bi_lstL, sl_L, sl_T, isNon, Option.map, List.set, and_self, if_true, if_false, Bool.false_eq_true, Bool.not_true, Bool.not_false, List.length, List.length_cons, List.length_nil, eq_self, Nat.zero_add, Nat.reduceAdd, Nat.reduceLeDiff, Option.bind_some, Option.isSome_some, decide_true, decide_false, List.length_map, seqOf, f_lawE_weight, b_lawE_weight, r, r']
theorem e_deed [H_lawE_deed I L fs] {G : Hh} {n : Nat} {form : List Int} (hP : PoolAt G n) (h1 : 1 ≤ form.length) (h2 : form.length ≤ 100) : ∃ (d : Deed) (G' : Hh), d.ok 15 ∧ (∀ i w, d = .tn i w → i ≤ form.length) ∧ (∀ i, d = .tk i → i ≤ form.length) ∧ Stir n G G' ∧ ∀ k, 3 ≤ k → run L fs k I.lawE_deed [.ref n, iT form] G = .ok d.W G' := by
  obtain ⟨y, G1, y0, ym, st1, e1⟩ := e_draw (I := I) (L := L) (fs := fs) (m := 6) hP (by omega) (by omega)
  have hP1 := st1.pool hP
  by_cases c0 : (y == 0) = true
  · obtain ⟨i, G2, i0, im, st2, e2⟩ := e_draw (I := I) (L := L) (fs := fs) (m := ((form.length : Nat) : Int) + 1) hP1 (by omega) (by omega)
    obtain ⟨i, rfl⟩ : ∃ j : Nat, i = (j : Nat) := ⟨i.toNat, by omega⟩
    refine ⟨.tk i, G2, (show i ≤ 1000 by omega), fun _ _ e => (by cases e), fun j e => (by cases e; omega), st1.trans st2, fun k hk => ?_⟩
    obtain ⟨k, rfl⟩ : ∃ m, k = m + 1 := ⟨k - 1, by omega⟩
    rw [run_at (A_lawE_deed L) rfl k _ G rfl]
    have r1 := e1 k (by omega)
    have r2 := e2 k (by omega)
    unfold Deed.W
    simp (disch := first | assumption | omega) only [List.map, List.map_cons, List.map_nil, Nat.reduceSub, List.replicate, List.cons_append, List.nil_append, List.append_nil, xs_cons, xs_nil, x_ret, x_asg, x_par, x_unp, x_drop, x_cond, x_loop, x_wh, x_raise1, x_setL, x_setF, x_app, x_try, e_fld, e_meth, e_lstT, g_nm, g_nil, IG.len, e_non, e_bl, e_int, e_str, e_v, e_g, e_op, e_neg, e_cmp, e_chain, e_and, e_or, e_not, e_ife, e_tup, e_lstF, e_ix, e_sl, e_call, e_bi, e_lc, e_isT, e_inG, e_ixG, es_nil, es_cons, es_star, o_no, o_yes, t_yes, t_and, t_or, t_not, t_val, t_tru, i_seq, i_r1, i_r2, i_enum, getS0, getSs, ofO_s, bindOk, bindEx, thnOk, thnEx, sthnNx, sthnRt, sthnEx, noexOk, endK_rt, endK_nx, endK_ex, c_eq_i, c_ne_i, c_eq_s, c_ne_s, c_lt, c_le, c_gt, c_ge, c_isN, c_notN, o_add, o_sub, o_mul, o_mod, o_div, o_addL, o_addT, tru_bl, tru_i, e_callK, e_callV, e_dct, e_mk, x_par3, x_setD, x_raise0, bi_lenT, bi_lenL, bi_min, bi_min2, bi_max2, bi_abs, bi_int, bi_intb, bi_tupL, bi_tupT, bi_lstT, bi_lstL, sl_L, sl_T, isNon, Option.map, List.set, and_self, if_true, if_false, Bool.false_eq_true, Bool.not_true, Bool.not_false, List.length, List.length_cons, List.length_nil, eq_self, Nat.zero_add, Nat.reduceAdd, Nat.reduceLeDiff, Option.bind_some, Option.isSome_some, decide_true, decide_false, List.length_map, seqOf, f_lawE_deed, b_lawE_deed, r1, c0, r2]
  · have c0 : (y == 0) = false := by simpa using c0
    by_cases c1 : y < 3
    · have c1' : decide (y < 3) = true := decide_eq_true c1
      obtain ⟨i, G2, i0, im, st2, e2⟩ := e_draw (I := I) (L := L) (fs := fs) (m := ((form.length : Nat) : Int) + (if (y == 1) = true then 1 else 0)) hP1 (by split <;> omega) (by split <;> omega)
      obtain ⟨w, G3, ow, ow2, st3, e3⟩ := e_weight (I := I) (L := L) (fs := fs) (m := 12) (st2.pool hP1) (by omega) (by omega)
      obtain ⟨i, rfl⟩ : ∃ j : Nat, i = (j : Nat) := ⟨i.toNat, by omega⟩
      have hi : i ≤ form.length := by split at im <;> omega
      refine ⟨.tn i w, G3, ⟨by omega, ow, by omega⟩, fun j u e => (by cases e; exact hi), fun j e => (by cases e), (st1.trans st2).trans st3, fun k hk => ?_⟩
      obtain ⟨k, rfl⟩ : ∃ m, k = m + 1 := ⟨k - 1, by omega⟩
      rw [run_at (A_lawE_deed L) rfl k _ G rfl]
      have r1 := e1 k (by omega)
      have r2 := e2 k (by omega)
      have r3 := e3 k (by omega)
      unfold Deed.W
      simp (disch := first | assumption | omega) only [List.map, List.map_cons, List.map_nil, Nat.reduceSub, List.replicate, List.cons_append, List.nil_append, List.append_nil, xs_cons, xs_nil, x_ret, x_asg, x_par, x_unp, x_drop, x_cond, x_loop, x_wh, x_raise1, x_setL, x_setF, x_app, x_try, e_fld, e_meth, e_lstT, g_nm, g_nil, IG.len, e_non, e_bl, e_int, e_str, e_v, e_g, e_op, e_neg, e_cmp, e_chain, e_and, e_or, e_not, e_ife, e_tup, e_lstF, e_ix, e_sl, e_call, e_bi, e_lc, e_isT, e_inG, e_ixG, es_nil, es_cons, es_star, o_no, o_yes, t_yes, t_and, t_or, t_not, t_val, t_tru, i_seq, i_r1, i_r2, i_enum, getS0, getSs, ofO_s, bindOk, bindEx, thnOk, thnEx, sthnNx, sthnRt, sthnEx, noexOk, endK_rt, endK_nx, endK_ex, c_eq_i, c_ne_i, c_eq_s, c_ne_s, c_lt, c_le, c_gt, c_ge, c_isN, c_notN, o_add, o_sub, o_mul, o_mod, o_div, o_addL, o_addT, tru_bl, tru_i, e_callK, e_callV, e_dct, e_mk, x_par3, x_setD, x_raise0, bi_lenT, bi_lenL, bi_min, bi_min2, bi_max2, bi_abs, bi_int, bi_intb, bi_tupL, bi_tupT, bi_lstT, bi_lstL, sl_L, sl_T, isNon, Option.map, List.set, and_self, if_true, if_false, Bool.false_eq_true, Bool.not_true, Bool.not_false, List.length, List.length_cons, List.length_nil, eq_self, Nat.zero_add, Nat.reduceAdd, Nat.reduceLeDiff, Option.bind_some, Option.isSome_some, decide_true, decide_false, List.length_map, seqOf, f_lawE_deed, b_lawE_deed, r1, c0, c1', r2, r3]
    · have c1' : decide (y < 3) = false := decide_eq_false c1
      obtain ⟨w, G3, ow, ow2, st3, e3⟩ := e_weight (I := I) (L := L) (fs := fs) (m := 15) hP1 (by omega) (by omega)
      by_cases c2 : y < 5
      · have c2' : decide (y < 5) = true := decide_eq_true c2
        refine ⟨.pt w, G3, ⟨ow, by omega⟩, fun _ _ e => (by cases e), fun j e => (by cases e), st1.trans st3, fun k hk => ?_⟩
        obtain ⟨k, rfl⟩ : ∃ m, k = m + 1 := ⟨k - 1, by omega⟩
        rw [run_at (A_lawE_deed L) rfl k _ G rfl]
        have r1 := e1 k (by omega)
        have r3 := e3 k (by omega)
        unfold Deed.W
        simp (disch := first | assumption | omega) only [List.map, List.map_cons, List.map_nil, Nat.reduceSub, List.replicate, List.cons_append, List.nil_append, List.append_nil, xs_cons, xs_nil, x_ret, x_asg, x_par, x_unp, x_drop, x_cond, x_loop, x_wh, x_raise1, x_setL, x_setF, x_app, x_try, e_fld, e_meth, e_lstT, g_nm, g_nil, IG.len, e_non, e_bl, e_int, e_str, e_v, e_g, e_op, e_neg, e_cmp, e_chain, e_and, e_or, e_not, e_ife, e_tup, e_lstF, e_ix, e_sl, e_call, e_bi, e_lc, e_isT, e_inG, e_ixG, es_nil, es_cons, es_star, o_no, o_yes, t_yes, t_and, t_or, t_not, t_val, t_tru, i_seq, i_r1, i_r2, i_enum, getS0, getSs, ofO_s, bindOk, bindEx, thnOk, thnEx, sthnNx, sthnRt, sthnEx, noexOk, endK_rt, endK_nx, endK_ex, c_eq_i, c_ne_i, c_eq_s, c_ne_s, c_lt, c_le, c_gt, c_ge, c_isN, c_notN, o_add, o_sub, o_mul, o_mod, o_div, o_addL, o_addT, tru_bl, tru_i, e_callK, e_callV, e_dct, e_mk, x_par3, x_setD, x_raise0, bi_lenT, bi_lenL, bi_min, bi_min2, bi_max2, bi_abs, bi_int, bi_intb, bi_tupL, bi_tupT, bi_lstT, bi_lstL, sl_L, sl_T, isNon, Option.map, List.set, and_self, if_true, if_false, Bool.false_eq_true, Bool.not_true, Bool.not_false, List.length, List.length_cons, List.length_nil, eq_self, Nat.zero_add, Nat.reduceAdd, Nat.reduceLeDiff, Option.bind_some, Option.isSome_some, decide_true, decide_false, List.length_map, seqOf, f_lawE_deed, b_lawE_deed, r1, c0, c1', r3, c2']
      · have c2' : decide (y < 5) = false := decide_eq_false c2
        obtain ⟨f0, fr, rfl⟩ : ∃ f0 fr, form = f0 :: fr := by
          cases form with
          | nil => simp at h1
          | cons a r => exact ⟨a, r, rfl⟩
        generalize hq : (if decide (f0 < 0) = true then (1 : Int) else 0) = q
        have hq01 : q = 0 ∨ q = 1 := by split at hq <;> omega
        generalize ha : (if w < 0 then -w else w) = aw
        have haw : aw = w ∨ aw = -w := by split at ha <;> omega
        have hr : aw * (1 - 2 * q) = aw ∨ aw * (1 - 2 * q) = -aw := by
          rcases hq01 with h | h
          · left; rw [h]; simp
          · right; rw [h, show (1 : Int) - 2 * 1 = -1 from rfl, Int.mul_neg_one]
        refine ⟨.pt (aw * (1 - 2 * q)), G3, ⟨by omega, by omega⟩, fun _ _ e => (by cases e), fun j e => (by cases e), st1.trans st3, fun k hk => ?_⟩
        obtain ⟨k, rfl⟩ : ∃ m, k = m + 1 := ⟨k - 1, by omega⟩
        rw [run_at (A_lawE_deed L) rfl k _ G rfl]
        have r1 := e1 k (by omega)
        have r3 := e3 k (by omega)
        have hi : iT (f0 :: fr) = .tup (.int f0 :: fr.map .int) := rfl
        unfold Deed.W
        simp (disch := first | assumption | omega) only [List.map, List.map_cons, List.map_nil, Nat.reduceSub, List.replicate, List.cons_append, List.nil_append, List.append_nil, xs_cons, xs_nil, x_ret, x_asg, x_par, x_unp, x_drop, x_cond, x_loop, x_wh, x_raise1, x_setL, x_setF, x_app, x_try, e_fld, e_meth, e_lstT, g_nm, g_nil, IG.len, e_non, e_bl, e_int, e_str, e_v, e_g, e_op, e_neg, e_cmp, e_chain, e_and, e_or, e_not, e_ife, e_tup, e_lstF, e_ix, e_sl, e_call, e_bi, e_lc, e_isT, e_inG, e_ixG, es_nil, es_cons, es_star, o_no, o_yes, t_yes, t_and, t_or, t_not, t_val, t_tru, i_seq, i_r1, i_r2, i_enum, getS0, getSs, ofO_s, bindOk, bindEx, thnOk, thnEx, sthnNx, sthnRt, sthnEx, noexOk, endK_rt, endK_nx, endK_ex, c_eq_i, c_ne_i, c_eq_s, c_ne_s, c_lt, c_le, c_gt, c_ge, c_isN, c_notN, o_add, o_sub, o_mul, o_mod, o_div, o_addL, o_addT, tru_bl, tru_i, e_callK, e_callV, e_dct, e_mk, x_par3, x_setD, x_raise0, bi_lenT, bi_lenL, bi_min, bi_min2, bi_max2, bi_abs, bi_int, bi_intb, bi_tupL, bi_tupT, bi_lstT, bi_lstL, sl_L, sl_T, isNon, Option.map, List.set, and_self, if_true, if_false, Bool.false_eq_true, Bool.not_true, Bool.not_false, List.length, List.length_cons, List.length_nil, eq_self, Nat.zero_add, Nat.reduceAdd, Nat.reduceLeDiff, Option.bind_some, Option.isSome_some, decide_true, decide_false, List.length_map, seqOf, f_lawE_deed, b_lawE_deed, r1, c0, c1', r3, c2', hi, ix0, ha, hq]
theorem e_pick [H_lawE_pick I L fs] {G : Hh} {n : Nat} {xs : List W} (hP : PoolAt G n) (h1 : 1 ≤ xs.length) (h2 : xs.length ≤ 1000) : ∃ (x : W) (G' : Hh), x ∈ xs ∧ Stir n G G' ∧ ∀ k, 2 ≤ k → run L fs k I.lawE_pick [.ref n, .lst xs] G = .ok x G' := by
  obtain ⟨d, G', d0, dm, st, e⟩ := e_draw (I := I) (L := L) (fs := fs) (m := ((xs.length : Nat) : Int)) hP (by omega) (by omega)
  obtain ⟨i, rfl⟩ : ∃ i : Nat, d = (i : Nat) := ⟨d.toNat, by omega⟩
  have hi : i < xs.length := by omega
  refine ⟨xs[i], G', List.getElem_mem _, st, fun k hk => ?_⟩
  obtain ⟨k, rfl⟩ : ∃ m, k = m + 1 := ⟨k - 1, by omega⟩
  rw [run_at (A_lawE_pick L) rfl k _ G rfl]
  have r := e k (by omega)
  simp (disch := first | assumption | omega) only [List.map, List.map_cons, List.map_nil, Nat.reduceSub, List.replicate, List.cons_append, List.nil_append, List.append_nil, xs_cons, xs_nil, x_ret, x_asg, x_par, x_unp, x_drop, x_cond, x_loop, x_wh, x_raise1, x_setL, x_setF, x_app, x_try, e_fld, e_meth, e_lstT, g_nm, g_nil, IG.len, e_non, e_bl, e_int, e_str, e_v, e_g, e_op, e_neg, e_cmp, e_chain, e_and, e_or, e_not, e_ife, e_tup, e_lstF, e_ix, e_sl, e_call, e_bi, e_lc, e_isT, e_inG, e_ixG, es_nil, es_cons, es_star, o_no, o_yes, t_yes, t_and, t_or, t_not, t_val, t_tru, i_seq, i_r1, i_r2, i_enum, getS0, getSs, ofO_s, bindOk, bindEx, thnOk, thnEx, sthnNx, sthnRt, sthnEx, noexOk, endK_rt, endK_nx, endK_ex, c_eq_i, c_ne_i, c_eq_s, c_ne_s, c_lt, c_le, c_gt, c_ge, c_isN, c_notN, o_add, o_sub, o_mul, o_mod, o_div, o_addL, o_addT, tru_bl, tru_i, e_callK, e_callV, e_dct, e_mk, x_par3, x_setD, x_raise0, bi_lenT, bi_lenL, bi_min, bi_min2, bi_max2, bi_abs, bi_int, bi_intb, bi_tupL, bi_tupT, bi_lstT, bi_lstL, sl_L, sl_T, isNon, Option.map, List.set, and_self, if_true, if_false, Bool.false_eq_true, Bool.not_true, Bool.not_false, List.length, List.length_cons, List.length_nil, eq_self, Nat.zero_add, Nat.reduceAdd, Nat.reduceLeDiff, Option.bind_some, Option.isSome_some, decide_true, decide_false, List.length_map, seqOf, f_lawE_pick, b_lawE_pick, r, ixL hi]
theorem o_pow18 (G : Hh) : evOp .pow (.int 10) (.int 18) G = .ok (.int 1000000000000000000) G := Eq.trans rfl rfl
theorem e_pool {c0 c1 : Int} [H_lawE_pool I L fs c0 c1] (ns : List Int) (i : Nat) (k : Nat) (G : Hh) (hk : 1 ≤ k) (hn : ns.length ≤ 63) (hc : -1000000 ≤ c1 ∧ c1 ≤ 1000000) : ∃ a b c : Int, run L fs k I.lawE_pool [.lst (ns.map .int), .int (i : Nat)] G = .ok (.ref G.length) (G ++ [.lst [.int a, .int b, .int c]]) := by
  obtain ⟨k, rfl⟩ : ∃ m, k = m + 1 := ⟨k - 1, by omega⟩
  obtain ⟨l', hl', _, hlen⟩ := cut_map ns none (some 6)
  obtain ⟨x, hx⟩ : ∃ x : Int, ∀ (L : Lib) (call : Nat → List W → Hh → R W) (G : Hh), evE L call (.ife (.val (.cmp .lt (.v 1) (.bi .len (.cons (.v 0) .nil)))) (.bi .int (.cons (.ix (.v 0) (.v 1)) .nil)) (.op .add (.op .mul (.int 70001) (.v 1)) (.int 89))) [some (.lst (ns.map .int)), some (.int (i : Nat)), none, none, none] G = .ok (.int x) G := by
    by_cases c : i < ns.length
    · refine ⟨ns[i], fun L call G => ?_⟩
      have h1 : decide (((i : Nat) : Int) < ((ns.length : Nat) : Int)) = true := decide_eq_true (by omega)
      have h2 := ixL (xs := ns.map W.int) (i := i) (by simpa using c) G
      rw [List.getElem_map] at h2
      simp (disch := first | assumption | omega) only [List.map, List.map_cons, List.map_nil, Nat.reduceSub, List.replicate, List.cons_append, List.nil_append, List.append_nil, xs_cons, xs_nil, x_ret, x_asg, x_par, x_unp, x_drop, x_cond, x_loop, x_wh, x_raise1, x_setL, x_setF, x_app, x_try, e_fld, e_meth, e_lstT, g_nm, g_nil, IG.len, e_non, e_bl, e_int, e_str, e_v, e_g, e_op, e_neg, e_cmp, e_chain, e_and, e_or, e_not, e_ife, e_tup, e_lstF, e_ix, e_sl, e_call, e_bi, e_lc, e_isT, e_inG, e_ixG, es_nil, es_cons, es_star, o_no, o_yes, t_yes, t_and, t_or, t_not, t_val, t_tru, i_seq, i_r1, i_r2, i_enum, getS0, getSs, ofO_s, bindOk, bindEx, thnOk, thnEx, sthnNx, sthnRt, sthnEx, noexOk, endK_rt, endK_nx, endK_ex, c_eq_i, c_ne_i, c_eq_s, c_ne_s, c_lt, c_le, c_gt, c_ge, c_isN, c_notN, o_add, o_sub, o_mul, o_mod, o_div, o_addL, o_addT, tru_bl, tru_i, e_callK, e_callV, e_dct, e_mk, x_par3, x_setD, x_raise0, bi_lenT, bi_lenL, bi_min, bi_min2, bi_max2, bi_abs, bi_int, bi_intb, bi_tupL, bi_tupT, bi_lstT, bi_lstL, sl_L, sl_T, isNon, Option.map, List.set, and_self, if_true, if_false, Bool.false_eq_true, Bool.not_true, Bool.not_false, List.length, List.length_cons, List.length_nil, eq_self, Nat.zero_add, Nat.reduceAdd, Nat.reduceLeDiff, Option.bind_some, Option.isSome_some, decide_true, decide_false, List.length_map, seqOf, h1, h2]
    · refine ⟨70001 * (i : Int) + 89, fun L call G => ?_⟩
      have h1 : decide (((i : Nat) : Int) < ((ns.length : Nat) : Int)) = false := decide_eq_false (by omega)
      simp (disch := first | assumption | omega) only [List.map, List.map_cons, List.map_nil, Nat.reduceSub, List.replicate, List.cons_append, List.nil_append, List.append_nil, xs_cons, xs_nil, x_ret, x_asg, x_par, x_unp, x_drop, x_cond, x_loop, x_wh, x_raise1, x_setL, x_setF, x_app, x_try, e_fld, e_meth, e_lstT, g_nm, g_nil, IG.len, e_non, e_bl, e_int, e_str, e_v, e_g, e_op, e_neg, e_cmp, e_chain, e_and, e_or, e_not, e_ife, e_tup, e_lstF, e_ix, e_sl, e_call, e_bi, e_lc, e_isT, e_inG, e_ixG, es_nil, es_cons, es_star, o_no, o_yes, t_yes, t_and, t_or, t_not, t_val, t_tru, i_seq, i_r1, i_r2, i_enum, getS0, getSs, ofO_s, bindOk, bindEx, thnOk, thnEx, sthnNx, sthnRt, sthnEx, noexOk, endK_rt, endK_nx, endK_ex, c_eq_i, c_ne_i, c_eq_s, c_ne_s, c_lt, c_le, c_gt, c_ge, c_isN, c_notN, o_add, o_sub, o_mul, o_mod, o_div, o_addL, o_addT, tru_bl, tru_i, e_callK, e_callV, e_dct, e_mk, x_par3, x_setD, x_raise0, bi_lenT, bi_lenL, bi_min, bi_min2, bi_max2, bi_abs, bi_int, bi_intb, bi_tupL, bi_tupT, bi_lstT, bi_lstL, sl_L, sl_T, isNon, Option.map, List.set, and_self, if_true, if_false, Bool.false_eq_true, Bool.not_true, Bool.not_false, List.length, List.length_cons, List.length_nil, eq_self, Nat.zero_add, Nat.reduceAdd, Nat.reduceLeDiff, Option.bind_some, Option.isSome_some, decide_true, decide_false, List.length_map, seqOf, h1]
  obtain ⟨ρ', e1, o, rfl⟩ := loop_fold (G := G) W.int (fun (v : Int) ρ => ∃ (o : Option W), ρ = [some (.lst (ns.map .int)), some (.int (i : Nat)), some (.int x), some (.int v), o]) (fun v w => (v * 48271 + w % 2147482937 + 43) % 2147482937) (xs := l')
    (step := forStep (.nm 4) (exSs L (run L fs k) (.cons (.asg 3 (.op .mod (.bi .int (.cons (.op .add (.op .add (.op .mul (.v 3) (.int 48271)) (.op .mod (.bi .int (.cons (.v 4) .nil)) (.int 2147482937))) (.int 43)) .nil)) (.int 2147482937))) .nil)))
    (s := c0 + c1 * (i : Nat)) (ρ := [some (.lst (ns.map .int)), some (.int (i : Nat)), some (.int x), some (.int (c0 + c1 * (i : Nat))), none]) (fun w _ v ρ ⟨o, e⟩ => by
      subst e
      refine ⟨[some (.lst (ns.map .int)), some (.int (i : Nat)), some (.int x), some (.int ((v * 48271 + w % 2147482937 + 43) % 2147482937)), some (.int w)], ?_, _, rfl⟩
      simp (disch := first | assumption | omega) only [List.map, List.map_cons, List.map_nil, Nat.reduceSub, List.replicate, List.cons_append, List.nil_append, List.append_nil, xs_cons, xs_nil, x_ret, x_asg, x_par, x_unp, x_drop, x_cond, x_loop, x_wh, x_raise1, x_setL, x_setF, x_app, x_try, e_fld, e_meth, e_lstT, g_nm, g_nil, IG.len, e_non, e_bl, e_int, e_str, e_v, e_g, e_op, e_neg, e_cmp, e_chain, e_and, e_or, e_not, e_ife, e_tup, e_lstF, e_ix, e_sl, e_call, e_bi, e_lc, e_isT, e_inG, e_ixG, es_nil, es_cons, es_star, o_no, o_yes, t_yes, t_and, t_or, t_not, t_val, t_tru, i_seq, i_r1, i_r2, i_enum, getS0, getSs, ofO_s, bindOk, bindEx, thnOk, thnEx, sthnNx, sthnRt, sthnEx, noexOk, endK_rt, endK_nx, endK_ex, c_eq_i, c_ne_i, c_eq_s, c_ne_s, c_lt, c_le, c_gt, c_ge, c_isN, c_notN, o_add, o_sub, o_mul, o_mod, o_div, o_addL, o_addT, tru_bl, tru_i, e_callK, e_callV, e_dct, e_mk, x_par3, x_setD, x_raise0, bi_lenT, bi_lenL, bi_min, bi_min2, bi_max2, bi_abs, bi_int, bi_intb, bi_tupL, bi_tupT, bi_lstT, bi_lstL, sl_L, sl_T, isNon, Option.map, List.set, and_self, if_true, if_false, Bool.false_eq_true, Bool.not_true, Bool.not_false, List.length, List.length_cons, List.length_nil, eq_self, Nat.zero_add, Nat.reduceAdd, Nat.reduceLeDiff, Option.bind_some, Option.isSome_some, decide_true, decide_false, List.length_map, seqOf, forStep, bindTg]) ⟨none, rfl⟩
  generalize l'.foldl (fun (v : Int) w => (v * 48271 + w % 2147482937 + 43) % 2147482937) (c0 + c1 * (i : Nat)) = v at e1
  refine ⟨(v + x * 1033) % 2147482937, if decide (x < 0) || decide (1000000000000000000 ≤ x) then (if x < 0 then -x else x) else 0, 0, ?_⟩
  rw [run_at (A_lawE_pool L c0 c1) rfl k _ G rfl]
  have r1 := fun G => hx L (run L fs k) G
  unfold f_lawE_pool b_lawE_pool
  simp only [xs_cons, x_par, List.replicate, Nat.reduceSub, List.map_cons, List.map_nil, List.cons_append, List.nil_append, r1, thnOk]
  simp (disch := first | assumption | omega) only [List.map, List.map_cons, List.map_nil, Nat.reduceSub, List.replicate, List.cons_append, List.nil_append, List.append_nil, xs_cons, xs_nil, x_ret, x_asg, x_par, x_unp, x_drop, x_cond, x_loop, x_wh, x_raise1, x_setL, x_setF, x_app, x_try, e_fld, e_meth, e_lstT, g_nm, g_nil, IG.len, e_non, e_bl, e_int, e_str, e_v, e_g, e_op, e_neg, e_cmp, e_chain, e_and, e_or, e_not, e_ife, e_tup, e_lstF, e_ix, e_sl, e_call, e_bi, e_lc, e_isT, e_inG, e_ixG, es_nil, es_cons, es_star, o_no, o_yes, t_yes, t_and, t_or, t_not, t_val, t_tru, i_seq, i_r1, i_r2, i_enum, getS0, getSs, ofO_s, bindOk, bindEx, thnOk, thnEx, sthnNx, sthnRt, sthnEx, noexOk, endK_rt, endK_nx, endK_ex, c_eq_i, c_ne_i, c_eq_s, c_ne_s, c_lt, c_le, c_gt, c_ge, c_isN, c_notN, o_add, o_sub, o_mul, o_mod, o_div, o_addL, o_addT, tru_bl, tru_i, e_callK, e_callV, e_dct, e_mk, x_par3, x_setD, x_raise0, bi_lenT, bi_lenL, bi_min, bi_min2, bi_max2, bi_abs, bi_int, bi_intb, bi_tupL, bi_tupT, bi_lstT, bi_lstL, sl_L, sl_T, isNon, Option.map, List.set, and_self, if_true, if_false, Bool.false_eq_true, Bool.not_true, Bool.not_false, List.length, List.length_cons, List.length_nil, eq_self, Nat.zero_add, Nat.reduceAdd, Nat.reduceLeDiff, Option.bind_some, Option.isSome_some, decide_true, decide_false, List.length_map, seqOf, hl', e1, o_pow18]
  obtain ⟨c1, hc1⟩ : ∃ c, decide (x < 0) = c := ⟨_, rfl⟩
  obtain ⟨c2, hc2⟩ : ∃ c, decide (1000000000000000000 ≤ x) = c := ⟨_, rfl⟩
  rw [hc1, hc2]
  cases c1 <;> cases c2 <;> simp (disch := first | assumption | omega) only [List.map, List.map_cons, List.map_nil, Nat.reduceSub, List.replicate, List.cons_append, List.nil_append, List.append_nil, xs_cons, xs_nil, x_ret, x_asg, x_par, x_unp, x_drop, x_cond, x_loop, x_wh, x_raise1, x_setL, x_setF, x_app, x_try, e_fld, e_meth, e_lstT, g_nm, g_nil, IG.len, e_non, e_bl, e_int, e_str, e_v, e_g, e_op, e_neg, e_cmp, e_chain, e_and, e_or, e_not, e_ife, e_tup, e_lstF, e_ix, e_sl, e_call, e_bi, e_lc, e_isT, e_inG, e_ixG, es_nil, es_cons, es_star, o_no, o_yes, t_yes, t_and, t_or, t_not, t_val, t_tru, i_seq, i_r1, i_r2, i_enum, getS0, getSs, ofO_s, bindOk, bindEx, thnOk, thnEx, sthnNx, sthnRt, sthnEx, noexOk, endK_rt, endK_nx, endK_ex, c_eq_i, c_ne_i, c_eq_s, c_ne_s, c_lt, c_le, c_gt, c_ge, c_isN, c_notN, o_add, o_sub, o_mul, o_mod, o_div, o_addL, o_addT, tru_bl, tru_i, e_callK, e_callV, e_dct, e_mk, x_par3, x_setD, x_raise0, bi_lenT, bi_lenL, bi_min, bi_min2, bi_max2, bi_abs, bi_int, bi_intb, bi_tupL, bi_tupT, bi_lstT, bi_lstL, sl_L, sl_T, isNon, Option.map, List.set, and_self, if_true, if_false, Bool.false_eq_true, Bool.not_true, Bool.not_false, List.length, List.length_cons, List.length_nil, eq_self, Nat.zero_add, Nat.reduceAdd, Nat.reduceLeDiff, Option.bind_some, Option.isSome_some, decide_true, decide_false, List.length_map, seqOf, Bool.or_false, Bool.or_true, Bool.or_self]
end
end PI
end

section
set_option autoImplicit false
set_option maxHeartbeats 4000000
/-! S9: desks. -/
namespace PI
open PySem (Str PyData)
open NF
section
variable {I : Ix} {L : Lib} {fs : List Fn}
theorem d_reason0 [H_desks_reason_by_itself I L fs] (form : List Int) (d : Deed) (k : Nat) (G : Hh) (hk : 1 ≤ k) (hl : form.length ≤ 1000) : run L fs k I.desks_reason_by_itself [iT form, d.W] G = .ok (oS (rsn0 form d)) G := by
  obtain ⟨k, rfl⟩ : ∃ m, k = m + 1 := ⟨k - 1, by omega⟩
  rw [run_at (A_desks_reason_by_itself L) rfl k _ G rfl]
  cases d with
  | tk i =>
    unfold rsn0 Deed.W
    cases h1 : decide (((form.length : Nat) : Int) ≤ ((i : Nat) : Int))
    · cases h2 : (((form.length : Nat) : Int) == 1) <;> simp (disch := first | assumption | omega) only [List.map, List.map_cons, List.map_nil, Nat.reduceSub, List.replicate, List.cons_append, List.nil_append, List.append_nil, xs_cons, xs_nil, x_ret, x_asg, x_par, x_unp, x_drop, x_cond, x_loop, x_wh, x_raise1, x_setL, x_setF, x_app, x_try, e_fld, e_meth, e_lstT, g_nm, g_nil, IG.len, e_non, e_bl, e_int, e_str, e_v, e_g, e_op, e_neg, e_cmp, e_chain, e_and, e_or, e_not, e_ife, e_tup, e_lstF, e_ix, e_sl, e_call, e_bi, e_lc, e_isT, e_inG, e_ixG, es_nil, es_cons, es_star, o_no, o_yes, t_yes, t_and, t_or, t_not, t_val, t_tru, i_seq, i_r1, i_r2, i_enum, getS0, getSs, ofO_s, bindOk, bindEx, thnOk, thnEx, sthnNx, sthnRt, sthnEx, noexOk, endK_rt, endK_nx, endK_ex, c_eq_i, c_ne_i, c_eq_s, c_ne_s, c_lt, c_le, c_gt, c_ge, c_isN, c_notN, o_add, o_sub, o_mul, o_mod, o_div, o_addL, o_addT, tru_bl, tru_i, e_callK, e_callV, e_dct, e_mk, x_par3, x_setD, x_raise0, bi_lenT, bi_lenL, bi_min, bi_min2, bi_max2, bi_abs, bi_int, bi_intb, bi_tupL, bi_tupT, bi_lstT, bi_lstL, sl_L, sl_T, isNon, Option.map, List.set, and_self, if_true, if_false, Bool.false_eq_true, Bool.not_true, Bool.not_false, List.length, List.length_cons, List.length_nil, eq_self, Nat.zero_add, Nat.reduceAdd, Nat.reduceLeDiff, Option.bind_some, Option.isSome_some, decide_true, decide_false, List.length_map, seqOf, f_desks_reason_by_itself, b_desks_reason_by_itself, ix0, ix1, s_kp, s_kk, h1, h2, A_g_desks_ONE, A_g_desks_NONE, oS]
    · simp (disch := first | assumption | omega) only [List.map, List.map_cons, List.map_nil, Nat.reduceSub, List.replicate, List.cons_append, List.nil_append, List.append_nil, xs_cons, xs_nil, x_ret, x_asg, x_par, x_unp, x_drop, x_cond, x_loop, x_wh, x_raise1, x_setL, x_setF, x_app, x_try, e_fld, e_meth, e_lstT, g_nm, g_nil, IG.len, e_non, e_bl, e_int, e_str, e_v, e_g, e_op, e_neg, e_cmp, e_chain, e_and, e_or, e_not, e_ife, e_tup, e_lstF, e_ix, e_sl, e_call, e_bi, e_lc, e_isT, e_inG, e_ixG, es_nil, es_cons, es_star, o_no, o_yes, t_yes, t_and, t_or, t_not, t_val, t_tru, i_seq, i_r1, i_r2, i_enum, getS0, getSs, ofO_s, bindOk, bindEx, thnOk, thnEx, sthnNx, sthnRt, sthnEx, noexOk, endK_rt, endK_nx, endK_ex, c_eq_i, c_ne_i, c_eq_s, c_ne_s, c_lt, c_le, c_gt, c_ge, c_isN, c_notN, o_add, o_sub, o_mul, o_mod, o_div, o_addL, o_addT, tru_bl, tru_i, e_callK, e_callV, e_dct, e_mk, x_par3, x_setD, x_raise0, bi_lenT, bi_lenL, bi_min, bi_min2, bi_max2, bi_abs, bi_int, bi_intb, bi_tupL, bi_tupT, bi_lstT, bi_lstL, sl_L, sl_T, isNon, Option.map, List.set, and_self, if_true, if_false, Bool.false_eq_true, Bool.not_true, Bool.not_false, List.length, List.length_cons, List.length_nil, eq_self, Nat.zero_add, Nat.reduceAdd, Nat.reduceLeDiff, Option.bind_some, Option.isSome_some, decide_true, decide_false, List.length_map, seqOf, f_desks_reason_by_itself, b_desks_reason_by_itself, ix0, ix1, s_kp, s_kk, h1, A_g_desks_ONE, A_g_desks_NONE, oS]
  | tn i w =>
    unfold rsn0 Deed.W
    cases h1 : decide (((form.length : Nat) : Int) ≤ ((i : Nat) : Int))
    · have hi : i < form.length := by have := of_decide_eq_false h1; omega
      have ix := fun G => ixD hi G
      cases h2 : (form.getD i 0 == w) <;> simp (disch := first | assumption | omega) only [List.map, List.map_cons, List.map_nil, Nat.reduceSub, List.replicate, List.cons_append, List.nil_append, List.append_nil, xs_cons, xs_nil, x_ret, x_asg, x_par, x_unp, x_drop, x_cond, x_loop, x_wh, x_raise1, x_setL, x_setF, x_app, x_try, e_fld, e_meth, e_lstT, g_nm, g_nil, IG.len, e_non, e_bl, e_int, e_str, e_v, e_g, e_op, e_neg, e_cmp, e_chain, e_and, e_or, e_not, e_ife, e_tup, e_lstF, e_ix, e_sl, e_call, e_bi, e_lc, e_isT, e_inG, e_ixG, es_nil, es_cons, es_star, o_no, o_yes, t_yes, t_and, t_or, t_not, t_val, t_tru, i_seq, i_r1, i_r2, i_enum, getS0, getSs, ofO_s, bindOk, bindEx, thnOk, thnEx, sthnNx, sthnRt, sthnEx, noexOk, endK_rt, endK_nx, endK_ex, c_eq_i, c_ne_i, c_eq_s, c_ne_s, c_lt, c_le, c_gt, c_ge, c_isN, c_notN, o_add, o_sub, o_mul, o_mod, o_div, o_addL, o_addT, tru_bl, tru_i, e_callK, e_callV, e_dct, e_mk, x_par3, x_setD, x_raise0, bi_lenT, bi_lenL, bi_min, bi_min2, bi_max2, bi_abs, bi_int, bi_intb, bi_tupL, bi_tupT, bi_lstT, bi_lstL, sl_L, sl_T, isNon, Option.map, List.set, and_self, if_true, if_false, Bool.false_eq_true, Bool.not_true, Bool.not_false, List.length, List.length_cons, List.length_nil, eq_self, Nat.zero_add, Nat.reduceAdd, Nat.reduceLeDiff, Option.bind_some, Option.isSome_some, decide_true, decide_false, List.length_map, seqOf, f_desks_reason_by_itself, b_desks_reason_by_itself, ix0, ix1, ix2, ix, s_np, s_nk, h1, h2, A_g_desks_SAME, A_g_desks_NONE, oS]
    · simp (disch := first | assumption | omega) only [List.map, List.map_cons, List.map_nil, Nat.reduceSub, List.replicate, List.cons_append, List.nil_append, List.append_nil, xs_cons, xs_nil, x_ret, x_asg, x_par, x_unp, x_drop, x_cond, x_loop, x_wh, x_raise1, x_setL, x_setF, x_app, x_try, e_fld, e_meth, e_lstT, g_nm, g_nil, IG.len, e_non, e_bl, e_int, e_str, e_v, e_g, e_op, e_neg, e_cmp, e_chain, e_and, e_or, e_not, e_ife, e_tup, e_lstF, e_ix, e_sl, e_call, e_bi, e_lc, e_isT, e_inG, e_ixG, es_nil, es_cons, es_star, o_no, o_yes, t_yes, t_and, t_or, t_not, t_val, t_tru, i_seq, i_r1, i_r2, i_enum, getS0, getSs, ofO_s, bindOk, bindEx, thnOk, thnEx, sthnNx, sthnRt, sthnEx, noexOk, endK_rt, endK_nx, endK_ex, c_eq_i, c_ne_i, c_eq_s, c_ne_s, c_lt, c_le, c_gt, c_ge, c_isN, c_notN, o_add, o_sub, o_mul, o_mod, o_div, o_addL, o_addT, tru_bl, tru_i, e_callK, e_callV, e_dct, e_mk, x_par3, x_setD, x_raise0, bi_lenT, bi_lenL, bi_min, bi_min2, bi_max2, bi_abs, bi_int, bi_intb, bi_tupL, bi_tupT, bi_lstT, bi_lstL, sl_L, sl_T, isNon, Option.map, List.set, and_self, if_true, if_false, Bool.false_eq_true, Bool.not_true, Bool.not_false, List.length, List.length_cons, List.length_nil, eq_self, Nat.zero_add, Nat.reduceAdd, Nat.reduceLeDiff, Option.bind_some, Option.isSome_some, decide_true, decide_false, List.length_map, seqOf, f_desks_reason_by_itself, b_desks_reason_by_itself, ix0, ix1, s_np, s_nk, h1, A_g_desks_NONE, oS]
  | pt w =>
    unfold rsn0 Deed.W
    cases h2 : (((form.length : Nat) : Int) == 4) <;> simp (disch := first | assumption | omega) only [List.map, List.map_cons, List.map_nil, Nat.reduceSub, List.replicate, List.cons_append, List.nil_append, List.append_nil, xs_cons, xs_nil, x_ret, x_asg, x_par, x_unp, x_drop, x_cond, x_loop, x_wh, x_raise1, x_setL, x_setF, x_app, x_try, e_fld, e_meth, e_lstT, g_nm, g_nil, IG.len, e_non, e_bl, e_int, e_str, e_v, e_g, e_op, e_neg, e_cmp, e_chain, e_and, e_or, e_not, e_ife, e_tup, e_lstF, e_ix, e_sl, e_call, e_bi, e_lc, e_isT, e_inG, e_ixG, es_nil, es_cons, es_star, o_no, o_yes, t_yes, t_and, t_or, t_not, t_val, t_tru, i_seq, i_r1, i_r2, i_enum, getS0, getSs, ofO_s, bindOk, bindEx, thnOk, thnEx, sthnNx, sthnRt, sthnEx, noexOk, endK_rt, endK_nx, endK_ex, c_eq_i, c_ne_i, c_eq_s, c_ne_s, c_lt, c_le, c_gt, c_ge, c_isN, c_notN, o_add, o_sub, o_mul, o_mod, o_div, o_addL, o_addT, tru_bl, tru_i, e_callK, e_callV, e_dct, e_mk, x_par3, x_setD, x_raise0, bi_lenT, bi_lenL, bi_min, bi_min2, bi_max2, bi_abs, bi_int, bi_intb, bi_tupL, bi_tupT, bi_lstT, bi_lstL, sl_L, sl_T, isNon, Option.map, List.set, and_self, if_true, if_false, Bool.false_eq_true, Bool.not_true, Bool.not_false, List.length, List.length_cons, List.length_nil, eq_self, Nat.zero_add, Nat.reduceAdd, Nat.reduceLeDiff, Option.bind_some, Option.isSome_some, decide_true, decide_false, List.length_map, seqOf, f_desks_reason_by_itself, b_desks_reason_by_itself, ix0, ix1, s_pp, h2, A_g_desks_FULL, A_g_desks_MOST_HERE, oS]
theorem isN_o (o : Option Str) : isNon (oS o) = o.isNone := by cases o <;> rfl
theorem d_reason [H_desks_reason_against I L fs] (form : List Int) (d : Deed) (k : Nat) (G : Hh) (hk : 7 ≤ k) (hf : Dw 99 form) (hl : form.length ≤ 5) (hd : d.ok 99) : run L fs k I.desks_reason_against [iT form, d.W] G = .ok (oS (rsn form d)) G := by
  obtain ⟨k, rfl⟩ : ∃ m, k = m + 1 := ⟨k - 1, by omega⟩
  rw [run_at (A_desks_reason_against L) rfl k _ G rfl]
  have r0 := d_reason0 (I := I) (L := L) (fs := fs) form d k G (by omega) (by omega)
  have r1 := fun G => d_behind (I := I) (L := L) (fs := fs) form d k G (by omega) (by omega)
  have haf : FmP (after form d) := (after_dw hf hd).fmp (by have := after_len form d; omega)
  have r2 := fun G => d_nought (I := I) (L := L) (fs := fs) (after form d) k G (by omega) haf
  have hw : ∃ x r, d.W = .tup (.str x :: r) ∧ decide (x = Str.ofString "take") = isTk d := by
    cases d
    · exact ⟨_, _, rfl, s_kk⟩
    · exact ⟨_, _, rfl, s_nk⟩
    · exact ⟨_, _, rfl, s_pk⟩
  obtain ⟨x, r, hw, ht⟩ := hw
  unfold rsn
  cases e : rsn0 form d with
  | some s =>
    rw [e] at r0
    unfold oS at r0
    simp (disch := first | assumption | omega) only [List.map, List.map_cons, List.map_nil, Nat.reduceSub, List.replicate, List.cons_append, List.nil_append, List.append_nil, xs_cons, xs_nil, x_ret, x_asg, x_par, x_unp, x_drop, x_cond, x_loop, x_wh, x_raise1, x_setL, x_setF, x_app, x_try, e_fld, e_meth, e_lstT, g_nm, g_nil, IG.len, e_non, e_bl, e_int, e_str, e_v, e_g, e_op, e_neg, e_cmp, e_chain, e_and, e_or, e_not, e_ife, e_tup, e_lstF, e_ix, e_sl, e_call, e_bi, e_lc, e_isT, e_inG, e_ixG, es_nil, es_cons, es_star, o_no, o_yes, t_yes, t_and, t_or, t_not, t_val, t_tru, i_seq, i_r1, i_r2, i_enum, getS0, getSs, ofO_s, bindOk, bindEx, thnOk, thnEx, sthnNx, sthnRt, sthnEx, noexOk, endK_rt, endK_nx, endK_ex, c_eq_i, c_ne_i, c_eq_s, c_ne_s, c_lt, c_le, c_gt, c_ge, c_isN, c_notN, o_add, o_sub, o_mul, o_mod, o_div, o_addL, o_addT, tru_bl, tru_i, e_callK, e_callV, e_dct, e_mk, x_par3, x_setD, x_raise0, bi_lenT, bi_lenL, bi_min, bi_min2, bi_max2, bi_abs, bi_int, bi_intb, bi_tupL, bi_tupT, bi_lstT, bi_lstL, sl_L, sl_T, isNon, Option.map, List.set, and_self, if_true, if_false, Bool.false_eq_true, Bool.not_true, Bool.not_false, List.length, List.length_cons, List.length_nil, eq_self, Nat.zero_add, Nat.reduceAdd, Nat.reduceLeDiff, Option.bind_some, Option.isSome_some, decide_true, decide_false, List.length_map, seqOf, f_desks_reason_against, b_desks_reason_against, r0, oS]
  | none =>
    rw [e] at r0
    unfold oS at r0
    rw [hw] at r0 r1 ⊢
    cases h1 : isTk d
    · rw [h1] at ht
      cases h2 : nought (after form d) <;> simp (disch := first | assumption | omega) only [List.map, List.map_cons, List.map_nil, Nat.reduceSub, List.replicate, List.cons_append, List.nil_append, List.append_nil, xs_cons, xs_nil, x_ret, x_asg, x_par, x_unp, x_drop, x_cond, x_loop, x_wh, x_raise1, x_setL, x_setF, x_app, x_try, e_fld, e_meth, e_lstT, g_nm, g_nil, IG.len, e_non, e_bl, e_int, e_str, e_v, e_g, e_op, e_neg, e_cmp, e_chain, e_and, e_or, e_not, e_ife, e_tup, e_lstF, e_ix, e_sl, e_call, e_bi, e_lc, e_isT, e_inG, e_ixG, es_nil, es_cons, es_star, o_no, o_yes, t_yes, t_and, t_or, t_not, t_val, t_tru, i_seq, i_r1, i_r2, i_enum, getS0, getSs, ofO_s, bindOk, bindEx, thnOk, thnEx, sthnNx, sthnRt, sthnEx, noexOk, endK_rt, endK_nx, endK_ex, c_eq_i, c_ne_i, c_eq_s, c_ne_s, c_lt, c_le, c_gt, c_ge, c_isN, c_notN, o_add, o_sub, o_mul, o_mod, o_div, o_addL, o_addT, tru_bl, tru_i, e_callK, e_callV, e_dct, e_mk, x_par3, x_setD, x_raise0, bi_lenT, bi_lenL, bi_min, bi_min2, bi_max2, bi_abs, bi_int, bi_intb, bi_tupL, bi_tupT, bi_lstT, bi_lstL, sl_L, sl_T, isNon, Option.map, List.set, and_self, if_true, if_false, Bool.false_eq_true, Bool.not_true, Bool.not_false, List.length, List.length_cons, List.length_nil, eq_self, Nat.zero_add, Nat.reduceAdd, Nat.reduceLeDiff, Option.bind_some, Option.isSome_some, decide_true, decide_false, List.length_map, seqOf, f_desks_reason_against, b_desks_reason_against, r0, ix0, ht, r1, r2, h2, A_g_desks_NOUGHT, oS]
    · rw [h1] at ht
      simp (disch := first | assumption | omega) only [List.map, List.map_cons, List.map_nil, Nat.reduceSub, List.replicate, List.cons_append, List.nil_append, List.append_nil, xs_cons, xs_nil, x_ret, x_asg, x_par, x_unp, x_drop, x_cond, x_loop, x_wh, x_raise1, x_setL, x_setF, x_app, x_try, e_fld, e_meth, e_lstT, g_nm, g_nil, IG.len, e_non, e_bl, e_int, e_str, e_v, e_g, e_op, e_neg, e_cmp, e_chain, e_and, e_or, e_not, e_ife, e_tup, e_lstF, e_ix, e_sl, e_call, e_bi, e_lc, e_isT, e_inG, e_ixG, es_nil, es_cons, es_star, o_no, o_yes, t_yes, t_and, t_or, t_not, t_val, t_tru, i_seq, i_r1, i_r2, i_enum, getS0, getSs, ofO_s, bindOk, bindEx, thnOk, thnEx, sthnNx, sthnRt, sthnEx, noexOk, endK_rt, endK_nx, endK_ex, c_eq_i, c_ne_i, c_eq_s, c_ne_s, c_lt, c_le, c_gt, c_ge, c_isN, c_notN, o_add, o_sub, o_mul, o_mod, o_div, o_addL, o_addT, tru_bl, tru_i, e_callK, e_callV, e_dct, e_mk, x_par3, x_setD, x_raise0, bi_lenT, bi_lenL, bi_min, bi_min2, bi_max2, bi_abs, bi_int, bi_intb, bi_tupL, bi_tupT, bi_lstT, bi_lstL, sl_L, sl_T, isNon, Option.map, List.set, and_self, if_true, if_false, Bool.false_eq_true, Bool.not_true, Bool.not_false, List.length, List.length_cons, List.length_nil, eq_self, Nat.zero_add, Nat.reduceAdd, Nat.reduceLeDiff, Option.bind_some, Option.isSome_some, decide_true, decide_false, List.length_map, seqOf, f_desks_reason_against, b_desks_reason_against, r0, ix0, ht, oS]
theorem e_reason [H_lawE_reason I L fs] (form : List Int) (d : Deed) (k : Nat) (G : Hh) (hk : 7 ≤ k) (hf : Dw 15 form) (h1 : 1 ≤ form.length) (hl : form.length ≤ 4) (hd : d.ok 15) : run L fs k I.lawE_reason [iT form, d.W] G = .ok (oE (rsn form d)) G := by
  obtain ⟨k, rfl⟩ : ∃ m, k = m + 1 := ⟨k - 1, by omega⟩
  rw [run_at (A_lawE_reason L) rfl k _ G rfl]
  have haf : Sf (after form d) := (after_dw hf hd).sf (by have := after_len form d; omega)
  have r1 := fun G => e_after (I := I) (L := L) (fs := fs) form d k G (by omega) (by omega)
  have r2 := fun h G => e_nought (I := I) (L := L) (fs := fs) (after form d) k G (by omega) haf h
  unfold rsn
  cases d with
  | tk i =>
    simp only [rsn0, isTk]
    unfold Deed.W
    cases h1 : decide (((form.length : Nat) : Int) ≤ ((i : Nat) : Int))
    · cases h2 : (((form.length : Nat) : Int) == 1) <;> simp (disch := first | assumption | omega) only [List.map, List.map_cons, List.map_nil, Nat.reduceSub, List.replicate, List.cons_append, List.nil_append, List.append_nil, xs_cons, xs_nil, x_ret, x_asg, x_par, x_unp, x_drop, x_cond, x_loop, x_wh, x_raise1, x_setL, x_setF, x_app, x_try, e_fld, e_meth, e_lstT, g_nm, g_nil, IG.len, e_non, e_bl, e_int, e_str, e_v, e_g, e_op, e_neg, e_cmp, e_chain, e_and, e_or, e_not, e_ife, e_tup, e_lstF, e_ix, e_sl, e_call, e_bi, e_lc, e_isT, e_inG, e_ixG, es_nil, es_cons, es_star, o_no, o_yes, t_yes, t_and, t_or, t_not, t_val, t_tru, i_seq, i_r1, i_r2, i_enum, getS0, getSs, ofO_s, bindOk, bindEx, thnOk, thnEx, sthnNx, sthnRt, sthnEx, noexOk, endK_rt, endK_nx, endK_ex, c_eq_i, c_ne_i, c_eq_s, c_ne_s, c_lt, c_le, c_gt, c_ge, c_isN, c_notN, o_add, o_sub, o_mul, o_mod, o_div, o_addL, o_addT, tru_bl, tru_i, e_callK, e_callV, e_dct, e_mk, x_par3, x_setD, x_raise0, bi_lenT, bi_lenL, bi_min, bi_min2, bi_max2, bi_abs, bi_int, bi_intb, bi_tupL, bi_tupT, bi_lstT, bi_lstL, sl_L, sl_T, isNon, Option.map, List.set, and_self, if_true, if_false, Bool.false_eq_true, Bool.not_true, Bool.not_false, List.length, List.length_cons, List.length_nil, eq_self, Nat.zero_add, Nat.reduceAdd, Nat.reduceLeDiff, Option.bind_some, Option.isSome_some, decide_true, decide_false, List.length_map, seqOf, f_lawE_reason, b_lawE_reason, ix0, ix1, s_kp, s_kk, h1, h2, oE]
    · simp (disch := first | assumption | omega) only [List.map, List.map_cons, List.map_nil, Nat.reduceSub, List.replicate, List.cons_append, List.nil_append, List.append_nil, xs_cons, xs_nil, x_ret, x_asg, x_par, x_unp, x_drop, x_cond, x_loop, x_wh, x_raise1, x_setL, x_setF, x_app, x_try, e_fld, e_meth, e_lstT, g_nm, g_nil, IG.len, e_non, e_bl, e_int, e_str, e_v, e_g, e_op, e_neg, e_cmp, e_chain, e_and, e_or, e_not, e_ife, e_tup, e_lstF, e_ix, e_sl, e_call, e_bi, e_lc, e_isT, e_inG, e_ixG, es_nil, es_cons, es_star, o_no, o_yes, t_yes, t_and, t_or, t_not, t_val, t_tru, i_seq, i_r1, i_r2, i_enum, getS0, getSs, ofO_s, bindOk, bindEx, thnOk, thnEx, sthnNx, sthnRt, sthnEx, noexOk, endK_rt, endK_nx, endK_ex, c_eq_i, c_ne_i, c_eq_s, c_ne_s, c_lt, c_le, c_gt, c_ge, c_isN, c_notN, o_add, o_sub, o_mul, o_mod, o_div, o_addL, o_addT, tru_bl, tru_i, e_callK, e_callV, e_dct, e_mk, x_par3, x_setD, x_raise0, bi_lenT, bi_lenL, bi_min, bi_min2, bi_max2, bi_abs, bi_int, bi_intb, bi_tupL, bi_tupT, bi_lstT, bi_lstL, sl_L, sl_T, isNon, Option.map, List.set, and_self, if_true, if_false, Bool.false_eq_true, Bool.not_true, Bool.not_false, List.length, List.length_cons, List.length_nil, eq_self, Nat.zero_add, Nat.reduceAdd, Nat.reduceLeDiff, Option.bind_some, Option.isSome_some, decide_true, decide_false, List.length_map, seqOf, f_lawE_reason, b_lawE_reason, ix0, ix1, s_kp, s_kk, h1, oE]
  | tn i w =>
    simp only [rsn0, isTk]
    cases h1 : decide (((form.length : Nat) : Int) ≤ ((i : Nat) : Int))
    · have hi : i < form.length := by have := of_decide_eq_false h1; omega
      have ix := fun G => ixD hi G
      have r2 := r2 (by simp [after]; omega)
      unfold Deed.W at *
      cases h2 : (form.getD i 0 == w)
      · cases h3 : nought (after form (.tn i w)) <;> simp (disch := first | assumption | omega) only [List.map, List.map_cons, List.map_nil, Nat.reduceSub, List.replicate, List.cons_append, List.nil_append, List.append_nil, xs_cons, xs_nil, x_ret, x_asg, x_par, x_unp, x_drop, x_cond, x_loop, x_wh, x_raise1, x_setL, x_setF, x_app, x_try, e_fld, e_meth, e_lstT, g_nm, g_nil, IG.len, e_non, e_bl, e_int, e_str, e_v, e_g, e_op, e_neg, e_cmp, e_chain, e_and, e_or, e_not, e_ife, e_tup, e_lstF, e_ix, e_sl, e_call, e_bi, e_lc, e_isT, e_inG, e_ixG, es_nil, es_cons, es_star, o_no, o_yes, t_yes, t_and, t_or, t_not, t_val, t_tru, i_seq, i_r1, i_r2, i_enum, getS0, getSs, ofO_s, bindOk, bindEx, thnOk, thnEx, sthnNx, sthnRt, sthnEx, noexOk, endK_rt, endK_nx, endK_ex, c_eq_i, c_ne_i, c_eq_s, c_ne_s, c_lt, c_le, c_gt, c_ge, c_isN, c_notN, o_add, o_sub, o_mul, o_mod, o_div, o_addL, o_addT, tru_bl, tru_i, e_callK, e_callV, e_dct, e_mk, x_par3, x_setD, x_raise0, bi_lenT, bi_lenL, bi_min, bi_min2, bi_max2, bi_abs, bi_int, bi_intb, bi_tupL, bi_tupT, bi_lstT, bi_lstL, sl_L, sl_T, isNon, Option.map, List.set, and_self, if_true, if_false, Bool.false_eq_true, Bool.not_true, Bool.not_false, List.length, List.length_cons, List.length_nil, eq_self, Nat.zero_add, Nat.reduceAdd, Nat.reduceLeDiff, Option.bind_some, Option.isSome_some, decide_true, decide_false, List.length_map, seqOf, f_lawE_reason, b_lawE_reason, ix0, ix1, ix2, ix, s_np, s_nk, h1, h2, r1, r2, h3, oE]
      · simp (disch := first | assumption | omega) only [List.map, List.map_cons, List.map_nil, Nat.reduceSub, List.replicate, List.cons_append, List.nil_append, List.append_nil, xs_cons, xs_nil, x_ret, x_asg, x_par, x_unp, x_drop, x_cond, x_loop, x_wh, x_raise1, x_setL, x_setF, x_app, x_try, e_fld, e_meth, e_lstT, g_nm, g_nil, IG.len, e_non, e_bl, e_int, e_str, e_v, e_g, e_op, e_neg, e_cmp, e_chain, e_and, e_or, e_not, e_ife, e_tup, e_lstF, e_ix, e_sl, e_call, e_bi, e_lc, e_isT, e_inG, e_ixG, es_nil, es_cons, es_star, o_no, o_yes, t_yes, t_and, t_or, t_not, t_val, t_tru, i_seq, i_r1, i_r2, i_enum, getS0, getSs, ofO_s, bindOk, bindEx, thnOk, thnEx, sthnNx, sthnRt, sthnEx, noexOk, endK_rt, endK_nx, endK_ex, c_eq_i, c_ne_i, c_eq_s, c_ne_s, c_lt, c_le, c_gt, c_ge, c_isN, c_notN, o_add, o_sub, o_mul, o_mod, o_div, o_addL, o_addT, tru_bl, tru_i, e_callK, e_callV, e_dct, e_mk, x_par3, x_setD, x_raise0, bi_lenT, bi_lenL, bi_min, bi_min2, bi_max2, bi_abs, bi_int, bi_intb, bi_tupL, bi_tupT, bi_lstT, bi_lstL, sl_L, sl_T, isNon, Option.map, List.set, and_self, if_true, if_false, Bool.false_eq_true, Bool.not_true, Bool.not_false, List.length, List.length_cons, List.length_nil, eq_self, Nat.zero_add, Nat.reduceAdd, Nat.reduceLeDiff, Option.bind_some, Option.isSome_some, decide_true, decide_false, List.length_map, seqOf, f_lawE_reason, b_lawE_reason, ix0, ix1, ix2, ix, s_np, s_nk, h1, h2, oE]
    · unfold Deed.W at *
      simp (disch := first | assumption | omega) only [List.map, List.map_cons, List.map_nil, Nat.reduceSub, List.replicate, List.cons_append, List.nil_append, List.append_nil, xs_cons, xs_nil, x_ret, x_asg, x_par, x_unp, x_drop, x_cond, x_loop, x_wh, x_raise1, x_setL, x_setF, x_app, x_try, e_fld, e_meth, e_lstT, g_nm, g_nil, IG.len, e_non, e_bl, e_int, e_str, e_v, e_g, e_op, e_neg, e_cmp, e_chain, e_and, e_or, e_not, e_ife, e_tup, e_lstF, e_ix, e_sl, e_call, e_bi, e_lc, e_isT, e_inG, e_ixG, es_nil, es_cons, es_star, o_no, o_yes, t_yes, t_and, t_or, t_not, t_val, t_tru, i_seq, i_r1, i_r2, i_enum, getS0, getSs, ofO_s, bindOk, bindEx, thnOk, thnEx, sthnNx, sthnRt, sthnEx, noexOk, endK_rt, endK_nx, endK_ex, c_eq_i, c_ne_i, c_eq_s, c_ne_s, c_lt, c_le, c_gt, c_ge, c_isN, c_notN, o_add, o_sub, o_mul, o_mod, o_div, o_addL, o_addT, tru_bl, tru_i, e_callK, e_callV, e_dct, e_mk, x_par3, x_setD, x_raise0, bi_lenT, bi_lenL, bi_min, bi_min2, bi_max2, bi_abs, bi_int, bi_intb, bi_tupL, bi_tupT, bi_lstT, bi_lstL, sl_L, sl_T, isNon, Option.map, List.set, and_self, if_true, if_false, Bool.false_eq_true, Bool.not_true, Bool.not_false, List.length, List.length_cons, List.length_nil, eq_self, Nat.zero_add, Nat.reduceAdd, Nat.reduceLeDiff, Option.bind_some, Option.isSome_some, decide_true, decide_false, List.length_map, seqOf, f_lawE_reason, b_lawE_reason, ix0, ix1, s_np, s_nk, h1, oE]
  | pt w =>
    simp only [rsn0, isTk]
    have r2 := r2 (by simp [after])
    have q1 : ∀ G, evOp .add (.tup (form.map W.int)) (.tup [.int w]) G = .ok (.tup ((after form (.pt w)).map .int)) G := fun G => by
      rw [o_addT _ _ _ (by simp; omega)]
      simp [after]
    unfold Deed.W at *
    cases h2 : (((form.length : Nat) : Int) == 4)
    · cases h3 : nought (after form (.pt w)) <;> simp (disch := first | assumption | omega) only [List.map, List.map_cons, List.map_nil, Nat.reduceSub, List.replicate, List.cons_append, List.nil_append, List.append_nil, xs_cons, xs_nil, x_ret, x_asg, x_par, x_unp, x_drop, x_cond, x_loop, x_wh, x_raise1, x_setL, x_setF, x_app, x_try, e_fld, e_meth, e_lstT, g_nm, g_nil, IG.len, e_non, e_bl, e_int, e_str, e_v, e_g, e_op, e_neg, e_cmp, e_chain, e_and, e_or, e_not, e_ife, e_tup, e_lstF, e_ix, e_sl, e_call, e_bi, e_lc, e_isT, e_inG, e_ixG, es_nil, es_cons, es_star, o_no, o_yes, t_yes, t_and, t_or, t_not, t_val, t_tru, i_seq, i_r1, i_r2, i_enum, getS0, getSs, ofO_s, bindOk, bindEx, thnOk, thnEx, sthnNx, sthnRt, sthnEx, noexOk, endK_rt, endK_nx, endK_ex, c_eq_i, c_ne_i, c_eq_s, c_ne_s, c_lt, c_le, c_gt, c_ge, c_isN, c_notN, o_add, o_sub, o_mul, o_mod, o_div, o_addL, o_addT, tru_bl, tru_i, e_callK, e_callV, e_dct, e_mk, x_par3, x_setD, x_raise0, bi_lenT, bi_lenL, bi_min, bi_min2, bi_max2, bi_abs, bi_int, bi_intb, bi_tupL, bi_tupT, bi_lstT, bi_lstL, sl_L, sl_T, isNon, Option.map, List.set, and_self, if_true, if_false, Bool.false_eq_true, Bool.not_true, Bool.not_false, List.length, List.length_cons, List.length_nil, eq_self, Nat.zero_add, Nat.reduceAdd, Nat.reduceLeDiff, Option.bind_some, Option.isSome_some, decide_true, decide_false, List.length_map, seqOf, f_lawE_reason, b_lawE_reason, ix0, ix1, s_pp, h2, q1, r2, h3, oE]
    · simp (disch := first | assumption | omega) only [List.map, List.map_cons, List.map_nil, Nat.reduceSub, List.replicate, List.cons_append, List.nil_append, List.append_nil, xs_cons, xs_nil, x_ret, x_asg, x_par, x_unp, x_drop, x_cond, x_loop, x_wh, x_raise1, x_setL, x_setF, x_app, x_try, e_fld, e_meth, e_lstT, g_nm, g_nil, IG.len, e_non, e_bl, e_int, e_str, e_v, e_g, e_op, e_neg, e_cmp, e_chain, e_and, e_or, e_not, e_ife, e_tup, e_lstF, e_ix, e_sl, e_call, e_bi, e_lc, e_isT, e_inG, e_ixG, es_nil, es_cons, es_star, o_no, o_yes, t_yes, t_and, t_or, t_not, t_val, t_tru, i_seq, i_r1, i_r2, i_enum, getS0, getSs, ofO_s, bindOk, bindEx, thnOk, thnEx, sthnNx, sthnRt, sthnEx, noexOk, endK_rt, endK_nx, endK_ex, c_eq_i, c_ne_i, c_eq_s, c_ne_s, c_lt, c_le, c_gt, c_ge, c_isN, c_notN, o_add, o_sub, o_mul, o_mod, o_div, o_addL, o_addT, tru_bl, tru_i, e_callK, e_callV, e_dct, e_mk, x_par3, x_setD, x_raise0, bi_lenT, bi_lenL, bi_min, bi_min2, bi_max2, bi_abs, bi_int, bi_intb, bi_tupL, bi_tupT, bi_lstT, bi_lstL, sl_L, sl_T, isNon, Option.map, List.set, and_self, if_true, if_false, Bool.false_eq_true, Bool.not_true, Bool.not_false, List.length, List.length_cons, List.length_nil, eq_self, Nat.zero_add, Nat.reduceAdd, Nat.reduceLeDiff, Option.bind_some, Option.isSome_some, decide_true, decide_false, List.length_map, seqOf, f_lawE_reason, b_lawE_reason, ix0, ix1, s_pp, h2, oE]
/-! ### a desk among the cells -/
def F3 (form : List Int) (deeds : List Deed) (np : Nat) : List (Option W) := [some (iT form), some (.tup (deeds.map Deed.W)), some (.ref np)]
end
structure Dk (I : Ix) (G : Hh) (nd np : Nat) (form : List Int) (deeds : List Deed) (past : List (List Int)) : Prop where
  d : G[nd]? = some (.ins I.c_desks_Desk (F3 form deeds np))
  p : G[np]? = some (.lst (past.map iT))
  ne : nd ≠ np
section
variable {I : Ix} {L : Lib} {fs : List Fn}
theorem Dk.ins {G : Hh} {nd np : Nat} {form : List Int} {deeds : List Deed} {past : List (List Int)} (h : Dk I G nd np form deeds past) : insOf I.c_desks_Desk (.ref nd) G = some (F3 form deeds np) := by
  simp only [insOf, h.d, if_true]
theorem Dk.of {G G' : Hh} {nd np : Nat} {form : List Int} {deeds : List Deed} {past : List (List Int)} (h : Dk I G nd np form deeds past) (h1 : G'[nd]? = G[nd]?) (h2 : G'[np]? = G[np]?) : Dk I G' nd np form deeds past := ⟨by rw [h1]; exact h.d, by rw [h2]; exact h.p, h.ne⟩
theorem Dk.stir {G G' : Hh} {nd np n : Nat} {form : List Int} {deeds : List Deed} {past : List (List Int)} (h : Dk I G nd np form deeds past) (s : Stir n G G') (h1 : n ≠ nd) (h2 : n ≠ np) : Dk I G' nd np form deeds past := h.of (s.other h1) (s.other h2)
theorem stf {G : Hh} {c nd j : Nat} {fs : List (Option W)} (h : insOf c (.ref nd) G = some fs) (hj : j < fs.length) (z : W) (ρ : Rho) : evStF c j (.ref nd) z ρ G = .nx ρ (G.set nd (.ins c (fs.set j (some z)))) := by
  simp only [evStF, h, if_pos hj]
theorem app1 {G : Hh} {np : Nat} {past : List W} (h : G[np]? = some (.lst past)) (hl : past.length < 1000000) (z : W) (ρ : Rho) : lstOf (.ref np) G = some past ∧ evApp (.ref np) z ρ G = .nx ρ (G.set np (.lst (past ++ [z]))) := by
  have : lstOf (.ref np) G = some past := by simp only [lstOf, h]
  exact ⟨this, by simp only [evApp, this, if_pos hl]⟩
section
variable {G : Hh} {nd np : Nat} {form : List Int} {deeds : List Deed} {past : List (List Int)} {dd : Deed}
theorem d_do_no [H_desks_Desk_do I L fs] (hD : Dk I G nd np form deeds past) (hf : Dw 99 form) (hl : form.length ≤ 5) (hd : dd.ok 99) {s : Str} (e : rsn form dd = some s) (k : Nat) (hk : 8 ≤ k) : run L fs k I.desks_Desk_do [.ref nd, dd.W] G = .ex I.x_errors_Barred (some (.str s)) G := by
  obtain ⟨k, rfl⟩ : ∃ m, k = m + 1 := ⟨k - 1, by omega⟩
  rw [run_at (A_desks_Desk_do L) rfl k _ G rfl]
  have r1 := d_checkdeed (I := I) (L := L) (fs := fs) dd k G (by omega) hd
  have r2 := d_reason (I := I) (L := L) (fs := fs) form dd k G (by omega) hf hl hd
  rw [e] at r2
  unfold oS at r2
  have i0 := hD.ins
  unfold F3 at i0
  simp (disch := first | assumption | omega) only [List.map, List.map_cons, List.map_nil, Nat.reduceSub, List.replicate, List.cons_append, List.nil_append, List.append_nil, xs_cons, xs_nil, x_ret, x_asg, x_par, x_unp, x_drop, x_cond, x_loop, x_wh, x_raise1, x_setL, x_setF, x_app, x_try, e_fld, e_meth, e_lstT, g_nm, g_nil, IG.len, e_non, e_bl, e_int, e_str, e_v, e_g, e_op, e_neg, e_cmp, e_chain, e_and, e_or, e_not, e_ife, e_tup, e_lstF, e_ix, e_sl, e_call, e_bi, e_lc, e_isT, e_inG, e_ixG, es_nil, es_cons, es_star, o_no, o_yes, t_yes, t_and, t_or, t_not, t_val, t_tru, i_seq, i_r1, i_r2, i_enum, getS0, getSs, ofO_s, bindOk, bindEx, thnOk, thnEx, sthnNx, sthnRt, sthnEx, noexOk, endK_rt, endK_nx, endK_ex, c_eq_i, c_ne_i, c_eq_s, c_ne_s, c_lt, c_le, c_gt, c_ge, c_isN, c_notN, o_add, o_sub, o_mul, o_mod, o_div, o_addL, o_addT, tru_bl, tru_i, e_callK, e_callV, e_dct, e_mk, x_par3, x_setD, x_raise0, bi_lenT, bi_lenL, bi_min, bi_min2, bi_max2, bi_abs, bi_int, bi_intb, bi_tupL, bi_tupT, bi_lstT, bi_lstL, sl_L, sl_T, isNon, Option.map, List.set, and_self, if_true, if_false, Bool.false_eq_true, Bool.not_true, Bool.not_false, List.length, List.length_cons, List.length_nil, eq_self, Nat.zero_add, Nat.reduceAdd, Nat.reduceLeDiff, Option.bind_some, Option.isSome_some, decide_true, decide_false, List.length_map, seqOf, f_desks_Desk_do, b_desks_Desk_do, r1, i0, r2]
theorem d_do_ok [H_desks_Desk_do I L fs] (hD : Dk I G nd np form deeds past) (hf : Dw 99 form) (hl : form.length ≤ 5) (hn : deeds.length ≤ 1000) (hp : past.length ≤ 1000) (hd : dd.ok 99) (e : rsn form dd = none) :
    ∃ G', Dk I G' nd np (after form dd) (deeds ++ [dd]) (past ++ [form]) ∧ G'.length = G.length ∧ (∀ j, j ≠ nd → j ≠ np → G'[j]? = G[j]?) ∧ ∀ k, 8 ≤ k → run L fs k I.desks_Desk_do [.ref nd, dd.W] G = .ok .non G' := by
  have hlt1 : nd < G.length := (List.getElem?_eq_some_iff.mp hD.d).1
  have hlt2 : np < G.length := (List.getElem?_eq_some_iff.mp hD.p).1
  have i0 := hD.ins
  obtain ⟨a1, a2⟩ := app1 hD.p (by simp; omega) (iT form) [some (.ref nd), some dd.W, some .non]
  generalize hG1 : G.set np (.lst (past.map iT ++ [iT form])) = G1 at a2
  have i1 : insOf I.c_desks_Desk (.ref nd) G1 = some (F3 form deeds np) := by
    rw [← hG1]
    simp only [insOf, List.getElem?_set_ne (Ne.symm hD.ne), hD.d, if_true]
  have len1 : G1.length = G.length := by rw [← hG1, List.length_set]
  have s1 := stf (j := 0) i1 (by simp [F3]) (iT (after form dd)) [some (.ref nd), some dd.W, some .non]
  generalize hG2 : G1.set nd (.ins I.c_desks_Desk ((F3 form deeds np).set 0 (some (iT (after form dd))))) = G2 at s1
  have i2 : insOf I.c_desks_Desk (.ref nd) G2 = some (F3 (after form dd) deeds np) := by
    rw [← hG2]
    simp only [insOf, List.getElem?_set_self (show nd < G1.length by omega), if_true]
    rfl
  have hdd : deeds.map Deed.W ++ [dd.W] = (deeds ++ [dd]).map Deed.W := by simp
  have s2 := stf (j := 1) i2 (by simp [F3]) (.tup ((deeds ++ [dd]).map Deed.W)) [some (.ref nd), some dd.W, some .non]
  refine ⟨G2.set nd (.ins I.c_desks_Desk ((F3 (after form dd) deeds np).set 1 (some (.tup ((deeds ++ [dd]).map Deed.W))))), ⟨?_, ?_, hD.ne⟩, by rw [List.length_set, ← hG2, List.length_set]; exact len1, fun j h1 h2 => ?_, fun k hk => ?_⟩
  · rw [List.getElem?_set_self (by rw [← hG2, List.length_set]; omega)]
    rfl
  · rw [List.getElem?_set_ne hD.ne, ← hG2, List.getElem?_set_ne hD.ne, ← hG1, List.getElem?_set_self hlt2]
    simp
  · rw [List.getElem?_set_ne (Ne.symm h1), ← hG2, List.getElem?_set_ne (Ne.symm h1), ← hG1, List.getElem?_set_ne (Ne.symm h2)]
  · obtain ⟨k, rfl⟩ : ∃ m, k = m + 1 := ⟨k - 1, by omega⟩
    rw [run_at (A_desks_Desk_do L) rfl k _ G rfl]
    have r1 := d_checkdeed (I := I) (L := L) (fs := fs) dd k G (by omega) hd
    have r2 := d_reason (I := I) (L := L) (fs := fs) form dd k G (by omega) hf hl hd
    rw [e] at r2
    unfold oS at r2
    have r3 := d_behind (I := I) (L := L) (fs := fs) form dd k G1 (by omega) (by omega)
    have hz : (deeds.map Deed.W).length + [dd.W].length ≤ 1000000 := by simp; omega
    have ha := fun G => o_addT _ _ G hz
    rw [hdd] at ha
    unfold F3 at i0 i1 i2
    simp (disch := first | assumption | omega) only [List.map, List.map_cons, List.map_nil, Nat.reduceSub, List.replicate, List.cons_append, List.nil_append, List.append_nil, xs_cons, xs_nil, x_ret, x_asg, x_par, x_unp, x_drop, x_cond, x_loop, x_wh, x_raise1, x_setL, x_setF, x_app, x_try, e_fld, e_meth, e_lstT, g_nm, g_nil, IG.len, e_non, e_bl, e_int, e_str, e_v, e_g, e_op, e_neg, e_cmp, e_chain, e_and, e_or, e_not, e_ife, e_tup, e_lstF, e_ix, e_sl, e_call, e_bi, e_lc, e_isT, e_inG, e_ixG, es_nil, es_cons, es_star, o_no, o_yes, t_yes, t_and, t_or, t_not, t_val, t_tru, i_seq, i_r1, i_r2, i_enum, getS0, getSs, ofO_s, bindOk, bindEx, thnOk, thnEx, sthnNx, sthnRt, sthnEx, noexOk, endK_rt, endK_nx, endK_ex, c_eq_i, c_ne_i, c_eq_s, c_ne_s, c_lt, c_le, c_gt, c_ge, c_isN, c_notN, o_add, o_sub, o_mul, o_mod, o_div, o_addL, o_addT, tru_bl, tru_i, e_callK, e_callV, e_dct, e_mk, x_par3, x_setD, x_raise0, bi_lenT, bi_lenL, bi_min, bi_min2, bi_max2, bi_abs, bi_int, bi_intb, bi_tupL, bi_tupT, bi_lstT, bi_lstL, sl_L, sl_T, isNon, Option.map, List.set, and_self, if_true, if_false, Bool.false_eq_true, Bool.not_true, Bool.not_false, List.length, List.length_cons, List.length_nil, eq_self, Nat.zero_add, Nat.reduceAdd, Nat.reduceLeDiff, Option.bind_some, Option.isSome_some, decide_true, decide_false, List.length_map, seqOf, f_desks_Desk_do, b_desks_Desk_do, r1, i0, r2, a1, a2, i1, r3, s1, i2, ha, s2]
theorem d_Bars [H_desks_Desk_bars I L fs] (hD : Dk I G nd np form deeds past) (hf : Dw 99 form) (hl : form.length ≤ 5) (k : Nat) (hk : 7 ≤ k) : run L fs k I.desks_Desk_bars [.ref nd] G = .ok (iT (bars form)) G := by
  obtain ⟨k, rfl⟩ : ∃ m, k = m + 1 := ⟨k - 1, by omega⟩
  rw [run_at (A_desks_Desk_bars L) rfl k _ G rfl]
  have i0 := hD.ins
  have r := d_bars (I := I) (L := L) (fs := fs) form k G (by omega) (hf.fmp (by omega))
  unfold F3 at i0
  simp (disch := first | assumption | omega) only [List.map, List.map_cons, List.map_nil, Nat.reduceSub, List.replicate, List.cons_append, List.nil_append, List.append_nil, xs_cons, xs_nil, x_ret, x_asg, x_par, x_unp, x_drop, x_cond, x_loop, x_wh, x_raise1, x_setL, x_setF, x_app, x_try, e_fld, e_meth, e_lstT, g_nm, g_nil, IG.len, e_non, e_bl, e_int, e_str, e_v, e_g, e_op, e_neg, e_cmp, e_chain, e_and, e_or, e_not, e_ife, e_tup, e_lstF, e_ix, e_sl, e_call, e_bi, e_lc, e_isT, e_inG, e_ixG, es_nil, es_cons, es_star, o_no, o_yes, t_yes, t_and, t_or, t_not, t_val, t_tru, i_seq, i_r1, i_r2, i_enum, getS0, getSs, ofO_s, bindOk, bindEx, thnOk, thnEx, sthnNx, sthnRt, sthnEx, noexOk, endK_rt, endK_nx, endK_ex, c_eq_i, c_ne_i, c_eq_s, c_ne_s, c_lt, c_le, c_gt, c_ge, c_isN, c_notN, o_add, o_sub, o_mul, o_mod, o_div, o_addL, o_addT, tru_bl, tru_i, e_callK, e_callV, e_dct, e_mk, x_par3, x_setD, x_raise0, bi_lenT, bi_lenL, bi_min, bi_min2, bi_max2, bi_abs, bi_int, bi_intb, bi_tupL, bi_tupT, bi_lstT, bi_lstL, sl_L, sl_T, isNon, Option.map, List.set, and_self, if_true, if_false, Bool.false_eq_true, Bool.not_true, Bool.not_false, List.length, List.length_cons, List.length_nil, eq_self, Nat.zero_add, Nat.reduceAdd, Nat.reduceLeDiff, Option.bind_some, Option.isSome_some, decide_true, decide_false, List.length_map, seqOf, f_desks_Desk_bars, b_desks_Desk_bars, i0, r]
theorem d_mayput [H_desks_Desk_may_put I L fs] (hD : Dk I G nd np form deeds past) (hf : Dw 99 form) (hl : form.length ≤ 5) (w : Int) (h0 : w ≠ 0) (hw : w.natAbs ≤ 99) (k : Nat) (hk : 8 ≤ k) : run L fs k I.desks_Desk_may_put [.ref nd, .int w] G = .ok (.bl (rsn form (.pt w)).isNone) G := by
  obtain ⟨k, rfl⟩ : ∃ m, k = m + 1 := ⟨k - 1, by omega⟩
  rw [run_at (A_desks_Desk_may_put L) rfl k _ G rfl]
  have i0 := hD.ins
  have r := d_reason (I := I) (L := L) (fs := fs) form (.pt w) k G (by omega) hf hl ⟨h0, hw⟩
  unfold F3 at i0
  unfold Deed.W at r
  simp (disch := first | assumption | omega) only [List.map, List.map_cons, List.map_nil, Nat.reduceSub, List.replicate, List.cons_append, List.nil_append, List.append_nil, xs_cons, xs_nil, x_ret, x_asg, x_par, x_unp, x_drop, x_cond, x_loop, x_wh, x_raise1, x_setL, x_setF, x_app, x_try, e_fld, e_meth, e_lstT, g_nm, g_nil, IG.len, e_non, e_bl, e_int, e_str, e_v, e_g, e_op, e_neg, e_cmp, e_chain, e_and, e_or, e_not, e_ife, e_tup, e_lstF, e_ix, e_sl, e_call, e_bi, e_lc, e_isT, e_inG, e_ixG, es_nil, es_cons, es_star, o_no, o_yes, t_yes, t_and, t_or, t_not, t_val, t_tru, i_seq, i_r1, i_r2, i_enum, getS0, getSs, ofO_s, bindOk, bindEx, thnOk, thnEx, sthnNx, sthnRt, sthnEx, noexOk, endK_rt, endK_nx, endK_ex, c_eq_i, c_ne_i, c_eq_s, c_ne_s, c_lt, c_le, c_gt, c_ge, c_isN, c_notN, o_add, o_sub, o_mul, o_mod, o_div, o_addL, o_addT, tru_bl, tru_i, e_callK, e_callV, e_dct, e_mk, x_par3, x_setD, x_raise0, bi_lenT, bi_lenL, bi_min, bi_min2, bi_max2, bi_abs, bi_int, bi_intb, bi_tupL, bi_tupT, bi_lstT, bi_lstL, sl_L, sl_T, isNon, Option.map, List.set, and_self, if_true, if_false, Bool.false_eq_true, Bool.not_true, Bool.not_false, List.length, List.length_cons, List.length_nil, eq_self, Nat.zero_add, Nat.reduceAdd, Nat.reduceLeDiff, Option.bind_some, Option.isSome_some, decide_true, decide_false, List.length_map, seqOf, f_desks_Desk_may_put, b_desks_Desk_may_put, d_checkw, i0, r, ← isN_o]
theorem e_barred_no [H_lawE_barred I L fs] (hD : Dk I G nd np form deeds past) (hf : Dw 99 form) (hl : form.length ≤ 5) (hd : dd.ok 99) {s : Str} (e : rsn form dd = some s) (k : Nat) (hk : 9 ≤ k) : run L fs k I.lawE_barred [.ref nd, dd.W] G = .ok (.str s) G := by
  obtain ⟨k, rfl⟩ : ∃ m, k = m + 1 := ⟨k - 1, by omega⟩
  rw [run_at (A_lawE_barred L) rfl k _ G rfl]
  have i0 := hD.ins
  have r := d_do_no (I := I) (L := L) (fs := fs) hD hf hl hd e k (by omega)
  simp (disch := first | assumption | omega) only [List.map, List.map_cons, List.map_nil, Nat.reduceSub, List.replicate, List.cons_append, List.nil_append, List.append_nil, xs_cons, xs_nil, x_ret, x_asg, x_par, x_unp, x_drop, x_cond, x_loop, x_wh, x_raise1, x_setL, x_setF, x_app, x_try, e_fld, e_meth, e_lstT, g_nm, g_nil, IG.len, e_non, e_bl, e_int, e_str, e_v, e_g, e_op, e_neg, e_cmp, e_chain, e_and, e_or, e_not, e_ife, e_tup, e_lstF, e_ix, e_sl, e_call, e_bi, e_lc, e_isT, e_inG, e_ixG, es_nil, es_cons, es_star, o_no, o_yes, t_yes, t_and, t_or, t_not, t_val, t_tru, i_seq, i_r1, i_r2, i_enum, getS0, getSs, ofO_s, bindOk, bindEx, thnOk, thnEx, sthnNx, sthnRt, sthnEx, noexOk, endK_rt, endK_nx, endK_ex, c_eq_i, c_ne_i, c_eq_s, c_ne_s, c_lt, c_le, c_gt, c_ge, c_isN, c_notN, o_add, o_sub, o_mul, o_mod, o_div, o_addL, o_addT, tru_bl, tru_i, e_callK, e_callV, e_dct, e_mk, x_par3, x_setD, x_raise0, bi_lenT, bi_lenL, bi_min, bi_min2, bi_max2, bi_abs, bi_int, bi_intb, bi_tupL, bi_tupT, bi_lstT, bi_lstL, sl_L, sl_T, isNon, Option.map, List.set, and_self, if_true, if_false, Bool.false_eq_true, Bool.not_true, Bool.not_false, List.length, List.length_cons, List.length_nil, eq_self, Nat.zero_add, Nat.reduceAdd, Nat.reduceLeDiff, Option.bind_some, Option.isSome_some, decide_true, decide_false, List.length_map, seqOf, f_lawE_barred, b_lawE_barred, A_m_desks_Desk_do, i0, r, evHs, A_x_errors_Barred, evSE, List.contains_cons, beq_self_eq_true, Bool.true_or]
theorem e_barred_ok [H_lawE_barred I L fs] (hD : Dk I G nd np form deeds past) (hf : Dw 99 form) (hl : form.length ≤ 5) (hn : deeds.length ≤ 1000) (hp : past.length ≤ 1000) (hd : dd.ok 99) (e : rsn form dd = none) :
    ∃ G', Dk I G' nd np (after form dd) (deeds ++ [dd]) (past ++ [form]) ∧ G'.length = G.length ∧ (∀ j, j ≠ nd → j ≠ np → G'[j]? = G[j]?) ∧ ∀ k, 9 ≤ k → run L fs k I.lawE_barred [.ref nd, dd.W] G = .ok (.str (Str.ofString "")) G' := by
  obtain ⟨G', g1, g2, g3, g4⟩ := d_do_ok (I := I) (L := L) (fs := fs) hD hf hl hn hp hd e
  refine ⟨G', g1, g2, g3, fun k hk => ?_⟩
  obtain ⟨k, rfl⟩ : ∃ m, k = m + 1 := ⟨k - 1, by omega⟩
  rw [run_at (A_lawE_barred L) rfl k _ G rfl]
  have i0 := hD.ins
  have r := g4 k (by omega)
  simp (disch := first | assumption | omega) only [List.map, List.map_cons, List.map_nil, Nat.reduceSub, List.replicate, List.cons_append, List.nil_append, List.append_nil, xs_cons, xs_nil, x_ret, x_asg, x_par, x_unp, x_drop, x_cond, x_loop, x_wh, x_raise1, x_setL, x_setF, x_app, x_try, e_fld, e_meth, e_lstT, g_nm, g_nil, IG.len, e_non, e_bl, e_int, e_str, e_v, e_g, e_op, e_neg, e_cmp, e_chain, e_and, e_or, e_not, e_ife, e_tup, e_lstF, e_ix, e_sl, e_call, e_bi, e_lc, e_isT, e_inG, e_ixG, es_nil, es_cons, es_star, o_no, o_yes, t_yes, t_and, t_or, t_not, t_val, t_tru, i_seq, i_r1, i_r2, i_enum, getS0, getSs, ofO_s, bindOk, bindEx, thnOk, thnEx, sthnNx, sthnRt, sthnEx, noexOk, endK_rt, endK_nx, endK_ex, c_eq_i, c_ne_i, c_eq_s, c_ne_s, c_lt, c_le, c_gt, c_ge, c_isN, c_notN, o_add, o_sub, o_mul, o_mod, o_div, o_addL, o_addT, tru_bl, tru_i, e_callK, e_callV, e_dct, e_mk, x_par3, x_setD, x_raise0, bi_lenT, bi_lenL, bi_min, bi_min2, bi_max2, bi_abs, bi_int, bi_intb, bi_tupL, bi_tupT, bi_lstT, bi_lstL, sl_L, sl_T, isNon, Option.map, List.set, and_self, if_true, if_false, Bool.false_eq_true, Bool.not_true, Bool.not_false, List.length, List.length_cons, List.length_nil, eq_self, Nat.zero_add, Nat.reduceAdd, Nat.reduceLeDiff, Option.bind_some, Option.isSome_some, decide_true, decide_false, List.length_map, seqOf, f_lawE_barred, b_lawE_barred, A_m_desks_Desk_do, i0, r]
/-- what a desk of this form tells -/
def mayL : List Int := [1, -1, 2, -3, 5, -7, 12]
def toldW (form : List Int) : W := .lst [iT form, iT (bars form), .lst ((mayL.map fun w => (rsn form (.pt w)).isNone).map .bl)]
theorem mayL_ok : ∀ w ∈ mayL, w ≠ 0 ∧ w.natAbs ≤ 15 := by decide
theorem e_told [H_lawE_told I L fs] (hD : Dk I G nd np form deeds past) (hf : Dw 99 form) (hl : form.length ≤ 5) (k : Nat) (hk : 9 ≤ k) : run L fs k I.lawE_told [.ref nd] G = .ok (toldW form) G := by
  obtain ⟨k, rfl⟩ : ∃ m, k = m + 1 := ⟨k - 1, by omega⟩
  rw [run_at (A_lawE_told L) rfl k _ G rfl]
  have i0 := hD.ins
  have r := d_Bars (I := I) (L := L) (fs := fs) hD hf hl k (by omega)
  have e := lc_map (G := G) (xs := mayL) W.int (fun w => (rsn form (.pt w)).isNone) W.bl (step := lcStep [1] (.nm 1) (evT L (run L fs k) .yes) (evE L (run L fs k) (.meth (.v 0) I.m_desks_Desk_may_put (.cons (.v 1) .nil))) [some (.ref nd), none]) (fun w hw => by
    obtain ⟨w1, w2⟩ := mayL_ok w hw
    have r := d_mayput (I := I) (L := L) (fs := fs) hD hf hl w w1 (by omega) k (by omega)
    simp (disch := first | assumption | omega) only [List.map, List.map_cons, List.map_nil, Nat.reduceSub, List.replicate, List.cons_append, List.nil_append, List.append_nil, xs_cons, xs_nil, x_ret, x_asg, x_par, x_unp, x_drop, x_cond, x_loop, x_wh, x_raise1, x_setL, x_setF, x_app, x_try, e_fld, e_meth, e_lstT, g_nm, g_nil, IG.len, e_non, e_bl, e_int, e_str, e_v, e_g, e_op, e_neg, e_cmp, e_chain, e_and, e_or, e_not, e_ife, e_tup, e_lstF, e_ix, e_sl, e_call, e_bi, e_lc, e_isT, e_inG, e_ixG, es_nil, es_cons, es_star, o_no, o_yes, t_yes, t_and, t_or, t_not, t_val, t_tru, i_seq, i_r1, i_r2, i_enum, getS0, getSs, ofO_s, bindOk, bindEx, thnOk, thnEx, sthnNx, sthnRt, sthnEx, noexOk, endK_rt, endK_nx, endK_ex, c_eq_i, c_ne_i, c_eq_s, c_ne_s, c_lt, c_le, c_gt, c_ge, c_isN, c_notN, o_add, o_sub, o_mul, o_mod, o_div, o_addL, o_addT, tru_bl, tru_i, e_callK, e_callV, e_dct, e_mk, x_par3, x_setD, x_raise0, bi_lenT, bi_lenL, bi_min, bi_min2, bi_max2, bi_abs, bi_int, bi_intb, bi_tupL, bi_tupT, bi_lstT, bi_lstL, sl_L, sl_T, isNon, Option.map, List.set, and_self, if_true, if_false, Bool.false_eq_true, Bool.not_true, Bool.not_false, List.length, List.length_cons, List.length_nil, eq_self, Nat.zero_add, Nat.reduceAdd, Nat.reduceLeDiff, Option.bind_some, Option.isSome_some, decide_true, decide_false, List.length_map, seqOf, lcStep, bindTg, wipeR, A_m_desks_Desk_may_put, i0, r])
  have hm : ([W.int 1, .int (-1), .int 2, .int (-3), .int 5, .int (-7), .int 12] : List W) = mayL.map .int := rfl
  have hz : mayL.length ≤ 1000000 := by decide
  unfold F3 at i0
  unfold toldW
  generalize mayL = ml at *
  simp (disch := first | assumption | omega) only [List.map, List.map_cons, List.map_nil, Nat.reduceSub, List.replicate, List.cons_append, List.nil_append, List.append_nil, xs_cons, xs_nil, x_ret, x_asg, x_par, x_unp, x_drop, x_cond, x_loop, x_wh, x_raise1, x_setL, x_setF, x_app, x_try, e_fld, e_meth, e_lstT, g_nm, g_nil, IG.len, e_non, e_bl, e_int, e_str, e_v, e_g, e_op, e_neg, e_cmp, e_chain, e_and, e_or, e_not, e_ife, e_tup, e_lstF, e_ix, e_sl, e_call, e_bi, e_lc, e_isT, e_inG, e_ixG, es_nil, es_cons, es_star, o_no, o_yes, t_yes, t_and, t_or, t_not, t_val, t_tru, i_seq, i_r1, i_r2, i_enum, getS0, getSs, ofO_s, bindOk, bindEx, thnOk, thnEx, sthnNx, sthnRt, sthnEx, noexOk, endK_rt, endK_nx, endK_ex, c_eq_i, c_ne_i, c_eq_s, c_ne_s, c_lt, c_le, c_gt, c_ge, c_isN, c_notN, o_add, o_sub, o_mul, o_mod, o_div, o_addL, o_addT, tru_bl, tru_i, e_callK, e_callV, e_dct, e_mk, x_par3, x_setD, x_raise0, bi_lenT, bi_lenL, bi_min, bi_min2, bi_max2, bi_abs, bi_int, bi_intb, bi_tupL, bi_tupT, bi_lstT, bi_lstL, sl_L, sl_T, isNon, Option.map, List.set, and_self, if_true, if_false, Bool.false_eq_true, Bool.not_true, Bool.not_false, List.length, List.length_cons, List.length_nil, eq_self, Nat.zero_add, Nat.reduceAdd, Nat.reduceLeDiff, Option.bind_some, Option.isSome_some, decide_true, decide_false, List.length_map, seqOf, f_lawE_told, b_lawE_told, i0, A_m_desks_Desk_bars, r, hm, hz, e]
end
theorem e_due [H_lawE_due I L fs] (form : List Int) (hf : Dw 15 form) (h1 : 1 ≤ form.length) (hl : form.length ≤ 4) (k : Nat) (G : Hh) (hk : 8 ≤ k) : run L fs k I.lawE_due [iT form] G = .ok (toldW form) G := by
  obtain ⟨k, rfl⟩ : ∃ m, k = m + 1 := ⟨k - 1, by omega⟩
  rw [run_at (A_lawE_due L) rfl k _ G rfl]
  have r := fun G => e_bars (I := I) (L := L) (fs := fs) form k G (by omega) (hf.sf (by omega))
  have e := lc_map (G := G) (xs := mayL) W.int (fun w => (rsn form (.pt w)).isNone) W.bl (step := lcStep [1] (.nm 1) (evT L (run L fs k) .yes) (evE L (run L fs k) (.cmp .eq (.call I.lawE_reason (.cons (.v 0) (.cons (.tup (.cons (.str (Str.ofString "put")) (.cons (.v 1) .nil))) .nil)) []) (.str (Str.ofString "")))) [some (iT form), none, none]) (fun w hw => by
    obtain ⟨w1, w2⟩ := mayL_ok w hw
    have r := e_reason (I := I) (L := L) (fs := fs) form (.pt w) k G (by omega) hf h1 hl ⟨w1, w2⟩
    have hc : ∀ G, evCmp .eq (oE (rsn form (.pt w))) (.str (Str.ofString "")) G = some (rsn form (.pt w)).isNone := fun G => by
      simp only [rsn, rsn0, isTk]
      cases h2 : (((form.length : Nat) : Int) == 4)
      · cases h3 : nought (after form (.pt w)) <;> rfl
      · rfl
    unfold Deed.W at r
    simp (disch := first | assumption | omega) only [List.map, List.map_cons, List.map_nil, Nat.reduceSub, List.replicate, List.cons_append, List.nil_append, List.append_nil, xs_cons, xs_nil, x_ret, x_asg, x_par, x_unp, x_drop, x_cond, x_loop, x_wh, x_raise1, x_setL, x_setF, x_app, x_try, e_fld, e_meth, e_lstT, g_nm, g_nil, IG.len, e_non, e_bl, e_int, e_str, e_v, e_g, e_op, e_neg, e_cmp, e_chain, e_and, e_or, e_not, e_ife, e_tup, e_lstF, e_ix, e_sl, e_call, e_bi, e_lc, e_isT, e_inG, e_ixG, es_nil, es_cons, es_star, o_no, o_yes, t_yes, t_and, t_or, t_not, t_val, t_tru, i_seq, i_r1, i_r2, i_enum, getS0, getSs, ofO_s, bindOk, bindEx, thnOk, thnEx, sthnNx, sthnRt, sthnEx, noexOk, endK_rt, endK_nx, endK_ex, c_eq_i, c_ne_i, c_eq_s, c_ne_s, c_lt, c_le, c_gt, c_ge, c_isN, c_notN, o_add, o_sub, o_mul, o_mod, o_div, o_addL, o_addT, tru_bl, tru_i, e_callK, e_callV, e_dct, e_mk, x_par3, x_setD, x_raise0, bi_lenT, bi_lenL, bi_min, bi_min2, bi_max2, bi_abs, bi_int, bi_intb, bi_tupL, bi_tupT, bi_lstT, bi_lstL, sl_L, sl_T, isNon, Option.map, List.set, and_self, if_true, if_false, Bool.false_eq_true, Bool.not_true, Bool.not_false, List.length, List.length_cons, List.length_nil, eq_self, Nat.zero_add, Nat.reduceAdd, Nat.reduceLeDiff, Option.bind_some, Option.isSome_some, decide_true, decide_false, List.length_map, seqOf, lcStep, bindTg, wipeR, r, hc])
  have hm : ([W.int 1, .int (-1), .int 2, .int (-3), .int 5, .int (-7), .int 12] : List W) = mayL.map .int := rfl
  have hz : mayL.length ≤ 1000000 := by decide
  unfold toldW
  generalize mayL = ml at *
  simp (disch := first | assumption | omega) only [List.map, List.map_cons, List.map_nil, Nat.reduceSub, List.replicate, List.cons_append, List.nil_append, List.append_nil, xs_cons, xs_nil, x_ret, x_asg, x_par, x_unp, x_drop, x_cond, x_loop, x_wh, x_raise1, x_setL, x_setF, x_app, x_try, e_fld, e_meth, e_lstT, g_nm, g_nil, IG.len, e_non, e_bl, e_int, e_str, e_v, e_g, e_op, e_neg, e_cmp, e_chain, e_and, e_or, e_not, e_ife, e_tup, e_lstF, e_ix, e_sl, e_call, e_bi, e_lc, e_isT, e_inG, e_ixG, es_nil, es_cons, es_star, o_no, o_yes, t_yes, t_and, t_or, t_not, t_val, t_tru, i_seq, i_r1, i_r2, i_enum, getS0, getSs, ofO_s, bindOk, bindEx, thnOk, thnEx, sthnNx, sthnRt, sthnEx, noexOk, endK_rt, endK_nx, endK_ex, c_eq_i, c_ne_i, c_eq_s, c_ne_s, c_lt, c_le, c_gt, c_ge, c_isN, c_notN, o_add, o_sub, o_mul, o_mod, o_div, o_addL, o_addT, tru_bl, tru_i, e_callK, e_callV, e_dct, e_mk, x_par3, x_setD, x_raise0, bi_lenT, bi_lenL, bi_min, bi_min2, bi_max2, bi_abs, bi_int, bi_intb, bi_tupL, bi_tupT, bi_lstT, bi_lstL, sl_L, sl_T, isNon, Option.map, List.set, and_self, if_true, if_false, Bool.false_eq_true, Bool.not_true, Bool.not_false, List.length, List.length_cons, List.length_nil, eq_self, Nat.zero_add, Nat.reduceAdd, Nat.reduceLeDiff, Option.bind_some, Option.isSome_some, decide_true, decide_false, List.length_map, seqOf, f_lawE_due, b_lawE_due, hm, hz, e, r]
/-! ### a desk is made -/
theorem set_end (G : Hh) (c c' : Cell) : (G ++ [c]).set G.length c' = G ++ [c'] := by simp [List.set_append]
theorem set_end2 (G : Hh) (c c' b : Cell) : (G ++ [c] ++ [b]).set G.length c' = G ++ [c'] ++ [b] := by simp [List.set_append]
theorem stf1 (c : Nat) (G : Hh) (xs : List (Option W)) (j : Nat) (z : W) (ρ : Rho) (hj : j < xs.length) : evStF c j (.ref G.length) z ρ (G ++ [.ins c xs]) = .nx ρ (G ++ [.ins c (xs.set j (some z))]) := by
  have e := stf (c := c) (G := G ++ [Cell.ins c xs]) (nd := G.length) (fs := xs) (by simp [insOf]) hj z ρ
  rw [e, set_end]
theorem stf2 (c : Nat) (G : Hh) (xs : List (Option W)) (j : Nat) (z : W) (b : Cell) (ρ : Rho) (hj : j < xs.length) : evStF c j (.ref G.length) z ρ (G ++ [.ins c xs] ++ [b]) = .nx ρ (G ++ [.ins c (xs.set j (some z))] ++ [b]) := by
  have e := stf (c := c) (G := G ++ [Cell.ins c xs] ++ [b]) (nd := G.length) (fs := xs) (by simp [insOf]) hj z ρ
  rw [e, set_end2]
def mkCells (I : Ix) (G : Hh) : Hh := G ++ [.ins I.c_desks_Desk (F3 [1] [] (G.length + 1))] ++ [.lst []]
theorem d_init [H_desks_Desk_init I L fs] (k : Nat) (G : Hh) (hk : 1 ≤ k) : run L fs k I.desks_Desk_init [.ref G.length] (G ++ [.ins I.c_desks_Desk [none, none, none]]) = .ok .non (mkCells I G) := by
  obtain ⟨k, rfl⟩ : ∃ m, k = m + 1 := ⟨k - 1, by omega⟩
  rw [run_at (A_desks_Desk_init L) rfl k _ _ rfl]
  have q1 := fun (z : W) (ρ : Rho) => stf1 I.c_desks_Desk G [none, none, none] 0 z ρ (by decide)
  have q2 := fun (y z : W) (ρ : Rho) => stf1 I.c_desks_Desk G [some y, none, none] 1 z ρ (by simp)
  have q3 := fun (x y z : W) (b : Cell) (ρ : Rho) => stf2 I.c_desks_Desk G [some x, some y, none] 2 z b ρ (by simp)
  simp only [List.set] at q1 q2 q3
  simp (disch := first | assumption | omega) only [List.map, List.map_cons, List.map_nil, Nat.reduceSub, List.replicate, List.cons_append, List.nil_append, List.append_nil, xs_cons, xs_nil, x_ret, x_asg, x_par, x_unp, x_drop, x_cond, x_loop, x_wh, x_raise1, x_setL, x_setF, x_app, x_try, e_fld, e_meth, e_lstT, g_nm, g_nil, IG.len, e_non, e_bl, e_int, e_str, e_v, e_g, e_op, e_neg, e_cmp, e_chain, e_and, e_or, e_not, e_ife, e_tup, e_lstF, e_ix, e_sl, e_call, e_bi, e_lc, e_isT, e_inG, e_ixG, es_nil, es_cons, es_star, o_no, o_yes, t_yes, t_and, t_or, t_not, t_val, t_tru, i_seq, i_r1, i_r2, i_enum, getS0, getSs, ofO_s, bindOk, bindEx, thnOk, thnEx, sthnNx, sthnRt, sthnEx, noexOk, endK_rt, endK_nx, endK_ex, c_eq_i, c_ne_i, c_eq_s, c_ne_s, c_lt, c_le, c_gt, c_ge, c_isN, c_notN, o_add, o_sub, o_mul, o_mod, o_div, o_addL, o_addT, tru_bl, tru_i, e_callK, e_callV, e_dct, e_mk, x_par3, x_setD, x_raise0, bi_lenT, bi_lenL, bi_min, bi_min2, bi_max2, bi_abs, bi_int, bi_intb, bi_tupL, bi_tupT, bi_lstT, bi_lstL, sl_L, sl_T, isNon, Option.map, List.set, and_self, if_true, if_false, Bool.false_eq_true, Bool.not_true, Bool.not_false, List.length, List.length_cons, List.length_nil, eq_self, Nat.zero_add, Nat.reduceAdd, Nat.reduceLeDiff, Option.bind_some, Option.isSome_some, decide_true, decide_false, List.length_map, seqOf, f_desks_Desk_init, b_desks_Desk_init, q1, q2, q3, List.length_append]
  rfl
theorem d_mk [H_desks_Desk_init I L fs] (hc : L.inits[I.c_desks_Desk]? = some (I.desks_Desk_init, 3)) (k : Nat) (G : Hh) (hk : 1 ≤ k) (ρ : Rho) : evE L (run L fs k) (.mk I.c_desks_Desk) ρ G = .ok (.ref G.length) (mkCells I G) := by
  have q := d_init (I := I) (L := L) (fs := fs) k G hk
  simp (disch := first | assumption | omega) only [List.map, List.map_cons, List.map_nil, Nat.reduceSub, List.replicate, List.cons_append, List.nil_append, List.append_nil, xs_cons, xs_nil, x_ret, x_asg, x_par, x_unp, x_drop, x_cond, x_loop, x_wh, x_raise1, x_setL, x_setF, x_app, x_try, e_fld, e_meth, e_lstT, g_nm, g_nil, IG.len, e_non, e_bl, e_int, e_str, e_v, e_g, e_op, e_neg, e_cmp, e_chain, e_and, e_or, e_not, e_ife, e_tup, e_lstF, e_ix, e_sl, e_call, e_bi, e_lc, e_isT, e_inG, e_ixG, es_nil, es_cons, es_star, o_no, o_yes, t_yes, t_and, t_or, t_not, t_val, t_tru, i_seq, i_r1, i_r2, i_enum, getS0, getSs, ofO_s, bindOk, bindEx, thnOk, thnEx, sthnNx, sthnRt, sthnEx, noexOk, endK_rt, endK_nx, endK_ex, c_eq_i, c_ne_i, c_eq_s, c_ne_s, c_lt, c_le, c_gt, c_ge, c_isN, c_notN, o_add, o_sub, o_mul, o_mod, o_div, o_addL, o_addT, tru_bl, tru_i, e_callK, e_callV, e_dct, e_mk, x_par3, x_setD, x_raise0, bi_lenT, bi_lenL, bi_min, bi_min2, bi_max2, bi_abs, bi_int, bi_intb, bi_tupL, bi_tupT, bi_lstT, bi_lstL, sl_L, sl_T, isNon, Option.map, List.set, and_self, if_true, if_false, Bool.false_eq_true, Bool.not_true, Bool.not_false, List.length, List.length_cons, List.length_nil, eq_self, Nat.zero_add, Nat.reduceAdd, Nat.reduceLeDiff, Option.bind_some, Option.isSome_some, decide_true, decide_false, List.length_map, seqOf, hc, q]
theorem dk_mk (G : Hh) : Dk I (mkCells I G) G.length (G.length + 1) [1] [] [] :=
  ⟨by simp [mkCells], by simp [mkCells], by omega⟩
end
end PI
end

section
set_option autoImplicit false
/-! NH: the signs' laws: each sign is a product in each of its two numbers; no program in sight. -/
namespace NF
def X (b : Bool) : Int := if b = true then -1 else 1
theorem X_xor (a b : Bool) : X (a ^^ b) = X a * X b := by cases a <;> cases b <;> rfl
theorem X_inj {a b : Bool} (h : X a = X b) : a = b := by cases a <;> cases b <;> first | rfl | (exact absurd h (by decide))
theorem odd_add (a b : Int) : odd (a + b) = (odd a ^^ odd b) := by
  unfold odd
  rcases Int.emod_two_eq a with h | h <;> rcases Int.emod_two_eq b with h' | h'
  · rw [h, h', show (a + b) % 2 = 0 by omega]; rfl
  · rw [h, h', show (a + b) % 2 = 1 by omega]; rfl
  · rw [h, h', show (a + b) % 2 = 1 by omega]; rfl
  · rw [h, h', show (a + b) % 2 = 0 by omega]; rfl
theorem odd_mul (a b : Int) : odd (a * b) = (odd a && odd b) := by
  unfold odd
  rw [Int.mul_emod]
  rcases Int.emod_two_eq a with h | h <;> rcases Int.emod_two_eq b with h' | h' <;> rw [h, h'] <;> rfl
theorem odd_nat (a b : Nat) : odd ((a + b : Nat) : Int) = (odd (a : Int) ^^ odd (b : Int)) := by rw [Int.natCast_add, odd_add]
/-! ### at 2 -/
def eB (u : Int) : Bool := odd ((u - 1) / 2)
def wB (u : Int) : Bool := odd ((u * u - 1) / 8)
def uB (u : Int) : Bool := odd u
theorem odd_of {u : Int} (h : u % 2 ≠ 0) : ∃ q r : Int, u = 8 * q + r ∧ (r = 1 ∨ r = 3 ∨ r = 5 ∨ r = 7) := ⟨u / 8, u % 8, by omega, by omega⟩
theorem eB_of (q r : Int) (h : r = 1 ∨ r = 3 ∨ r = 5 ∨ r = 7) : eB (8 * q + r) = decide (r = 3 ∨ r = 7) := by
  unfold eB odd
  rcases h with rfl | rfl | rfl | rfl
  · rw [show ((8 * q + 1 - 1) / 2) % 2 = 0 by omega]; rfl
  · rw [show ((8 * q + 3 - 1) / 2) % 2 = 1 by omega]; rfl
  · rw [show ((8 * q + 5 - 1) / 2) % 2 = 0 by omega]; rfl
  · rw [show ((8 * q + 7 - 1) / 2) % 2 = 1 by omega]; rfl
theorem wB_of (q r : Int) (h : r = 1 ∨ r = 3 ∨ r = 5 ∨ r = 7) : wB (8 * q + r) = decide (r = 3 ∨ r = 5) := by
  unfold wB odd
  have e : (8 * q + r) * (8 * q + r) = 16 * (4 * (q * q) + q * r) + r * r := by
    simp only [Int.mul_add, Int.add_mul]
    have h1 : 8 * q * (8 * q) = 64 * (q * q) := by rw [show 8 * q * (8 * q) = 8 * (8 * (q * q)) by simp only [Int.mul_assoc, Int.mul_left_comm], ← Int.mul_assoc]; rfl
    have h2 : 8 * q * r = 8 * (q * r) := Int.mul_assoc _ _ _
    have h3 : r * (8 * q) = 8 * (q * r) := by rw [Int.mul_comm, Int.mul_assoc]
    rw [h1, h2, h3]
    omega
  rw [e]
  generalize 4 * (q * q) + q * r = z
  rcases h with rfl | rfl | rfl | rfl
  · rw [show ((16 * z + 1 * 1 - 1) / 8) % 2 = 0 by omega]; rfl
  · rw [show ((16 * z + 3 * 3 - 1) / 8) % 2 = 1 by omega]; rfl
  · rw [show ((16 * z + 5 * 5 - 1) / 8) % 2 = 1 by omega]; rfl
  · rw [show ((16 * z + 7 * 7 - 1) / 8) % 2 = 0 by omega]; rfl
theorem mul8 (q r q' r' : Int) : ∃ z, (8 * q + r) * (8 * q' + r') = 8 * z + r * r' := by
  refine ⟨q * (8 * q' + r') + r * q', ?_⟩
  simp only [Int.mul_add, Int.add_mul]
  have h1 : 8 * q * (8 * q') = 8 * (q * (8 * q')) := Int.mul_assoc _ _ _
  have h2 : 8 * q * r' = 8 * (q * r') := Int.mul_assoc _ _ _
  have h3 : r * (8 * q') = 8 * (r * q') := by simp only [Int.mul_left_comm]
  rw [h1, h2, h3]
  omega
theorem mulr {u v : Int} (hu : u % 2 ≠ 0) (hv : v % 2 ≠ 0) : eB (u * v) = (eB u ^^ eB v) ∧ wB (u * v) = (wB u ^^ wB v) := by
  obtain ⟨q, r, rfl, h⟩ := odd_of hu
  obtain ⟨q', r', rfl, h'⟩ := odd_of hv
  obtain ⟨z, e⟩ := mul8 q r q' r'
  have key : ∀ s t : Int, r * r' = 8 * t + s → (s = 1 ∨ s = 3 ∨ s = 5 ∨ s = 7) → eB ((8 * q + r) * (8 * q' + r')) = decide (s = 3 ∨ s = 7) ∧ wB ((8 * q + r) * (8 * q' + r')) = decide (s = 3 ∨ s = 5) := fun s t hs h => by
    rw [e, hs, show 8 * z + (8 * t + s) = 8 * (z + t) + s by omega]
    exact ⟨eB_of _ _ h, wB_of _ _ h⟩
  rw [eB_of q r h, eB_of q' r' h', wB_of q r h, wB_of q' r' h']
  rcases h with rfl | rfl | rfl | rfl <;> rcases h' with rfl | rfl | rfl | rfl
  · exact key 1 0 (by decide) (by decide)
  · exact key 3 0 (by decide) (by decide)
  · exact key 5 0 (by decide) (by decide)
  · exact key 7 0 (by decide) (by decide)
  · exact key 3 0 (by decide) (by decide)
  · exact key 1 1 (by decide) (by decide)
  · exact key 7 1 (by decide) (by decide)
  · exact key 5 2 (by decide) (by decide)
  · exact key 5 0 (by decide) (by decide)
  · exact key 7 1 (by decide) (by decide)
  · exact key 1 3 (by decide) (by decide)
  · exact key 3 4 (by decide) (by decide)
  · exact key 7 0 (by decide) (by decide)
  · exact key 5 2 (by decide) (by decide)
  · exact key 3 4 (by decide) (by decide)
  · exact key 1 6 (by decide) (by decide)
theorem negr {u : Int} (hu : u % 2 ≠ 0) : eB (-u) = !eB u ∧ wB (-u) = wB u := by
  obtain ⟨q, r, rfl, h⟩ := odd_of hu
  have e : -(8 * q + r) = 8 * (-q - 1) + (8 - r) := by omega
  rw [e, eB_of q r h, wB_of q r h, eB_of _ (8 - r) (by omega), wB_of _ (8 - r) (by omega)]
  rcases h with rfl | rfl | rfl | rfl <;> exact ⟨rfl, rfl⟩
/-! ### at odd primes -/
def pw (p : Int) (u : Int) : Nat := (u % p).toNat ^ ((p - 1) / 2).toNat % p.toNat
def rB (u p : Int) : Bool := rs u p == -1
theorem rs_X (u p : Int) : rs u p = X (rB u p) := by
  unfold rB
  rcases rs_pm u p with h | h <;> rw [h] <;> rfl
def oddP : List Int := [3, 5, 7, 11, 13, 17, 19, 23, 29, 31, 37, 41, 43, 47, 53, 59, 61, 67, 71, 73, 79, 83, 89, 97]
theorem rs_mod (u p : Int) : rs u p = rs (u % p) p := by
  unfold rs rsl
  have e : ∀ x : Int, ((x * x - u) % p == 0) = ((x * x - u % p) % p == 0) := fun x => by
    have : (x * x - u) % p = (x * x - u % p) % p := by rw [Int.sub_emod, Int.sub_emod (x * x) (u % p), Int.emod_emod]
    rw [this]
  simp only [e]
theorem rs_tab : (oddP.all fun p => (List.range p.toNat).all fun u => u == 0 || (rB (u : Nat) p && u ^ ((p - 1) / 2).toNat % p.toNat == p.toNat - 1) || (!rB (u : Nat) p && u ^ ((p - 1) / 2).toNat % p.toNat == 1)) = true := by decide +kernel
theorem odd_prs {p : Int} (h : p ∈ prs) (h2 : p ≠ 2) : p ∈ oddP := by
  simp only [prs, List.mem_cons] at h
  simp only [oddP, List.mem_cons]
  rcases h with h | h
  · exact absurd h h2
  · exact h
theorem oddP_bd : ∀ p ∈ oddP, 3 ≤ p ∧ p ∈ prs ∧ p % 2 = 1 := by decide
theorem rB_pw {p : Int} (hp : p ∈ oddP) {u : Int} (hu : u % p ≠ 0) : (rB u p = true ∧ pw p u = p.toNat - 1) ∨ (rB u p = false ∧ pw p u = 1) := by
  have hp3 := (oddP_bd p hp).1
  have h0 := Int.emod_nonneg u (show p ≠ 0 by omega)
  have h1 := Int.emod_lt_of_pos u (show 0 < p by omega)
  have h := List.all_eq_true.mp (List.all_eq_true.mp rs_tab p hp) (u % p).toNat (List.mem_range.mpr (by omega))
  have e : (((u % p).toNat : Nat) : Int) = u % p := by omega
  have e2 : rB (u % p) p = rB u p := by unfold rB; rw [← rs_mod]
  simp only [Bool.or_eq_true, Bool.and_eq_true, e, e2] at h
  rcases h with (h | ⟨h1, h2⟩) | ⟨h1, h2⟩
  · have : (u % p).toNat = 0 := by simpa using h
    omega
  · exact .inl ⟨h1, by simpa [pw] using h2⟩
  · exact .inr ⟨by simpa using h1, by simpa [pw] using h2⟩
theorem pw_mul {p : Int} (hp : 3 ≤ p) (u v : Int) : pw p (u * v) = pw p u * pw p v % p.toNat := by
  unfold pw
  have e : (u * v % p).toNat = (u % p).toNat * (v % p).toNat % p.toNat := by
    have h0 := Int.emod_nonneg u (show p ≠ 0 by omega)
    have h1 := Int.emod_nonneg v (show p ≠ 0 by omega)
    have h2 := Int.emod_nonneg (u * v) (show p ≠ 0 by omega)
    have : (((u * v % p).toNat : Nat) : Int) = (((u % p).toNat * (v % p).toNat % p.toNat : Nat) : Int) := by
      rw [Int.natCast_emod, Int.natCast_mul, Int.toNat_of_nonneg h0, Int.toNat_of_nonneg h1, Int.toNat_of_nonneg h2, Int.toNat_of_nonneg (show 0 ≤ p by omega), ← Int.mul_emod]
    exact Int.ofNat.inj this
  rw [e, ← Nat.pow_mod, Nat.mul_pow, Nat.mul_mod]
theorem rB_mul {p : Int} (hp : p ∈ oddP) {u v : Int} (hu : u % p ≠ 0) (hv : v % p ≠ 0) : rB (u * v) p = (rB u p ^^ rB v p) := by
  obtain ⟨hp3, hpp, _⟩ := oddP_bd p hp
  have huv : u * v % p ≠ 0 := fun z => ((prs_pr p hpp).mul _ _ z).elim hu hv
  have e := pw_mul hp3 u v
  have hq : ∃ m, p.toNat = m + 3 := ⟨p.toNat - 3, by omega⟩
  obtain ⟨m, hm⟩ := hq
  have q1 : (m + 3 - 1) * (m + 3 - 1) % (m + 3) = 1 := by
    have : (m + 3 - 1) * (m + 3 - 1) = 1 + (m + 3) * (m + 1) := by
      rw [show m + 3 - 1 = m + 2 by omega, Nat.add_mul, Nat.mul_add, Nat.mul_add, Nat.add_mul, Nat.mul_add]
      omega
    rw [this, Nat.add_mul_mod_self_left, Nat.mod_eq_of_lt (by omega)]
  have q2 : (m + 3 - 1) % (m + 3) = m + 3 - 1 := Nat.mod_eq_of_lt (by omega)
  have q3 : 1 % (m + 3) = 1 := Nat.mod_eq_of_lt (by omega)
  rcases rB_pw hp hu with ⟨a1, a2⟩ | ⟨a1, a2⟩ <;> rcases rB_pw hp hv with ⟨b1, b2⟩ | ⟨b1, b2⟩ <;> rcases rB_pw hp huv with ⟨c1, c2⟩ | ⟨c1, c2⟩ <;> rw [a2, b2, c2, hm] at e <;> rw [a1, b1, c1]
  · rw [q1] at e; omega
  · rfl
  · rfl
  · rw [Nat.mul_one, q2] at e; omega
  · rfl
  · rw [Nat.one_mul, q2] at e; omega
  · rw [Nat.mul_one, q3] at e; omega
  · rfl
theorem rB_neg1 : ∀ p ∈ oddP, rB (-1) p = odd ((p - 1) / 2) := by
  have key : (oddP.all fun p => rB (-1) p == odd ((p - 1) / 2)) = true := by decide +kernel
  intro p hp
  simpa using List.all_eq_true.mp key p hp
theorem one_mod : ∀ p ∈ oddP, (-1 : Int) % p ≠ 0 := by decide
/-! ### all signs are X -/
def Q2 (u v : Int) (i j : Bool) : Bool := ((eB u && eB v) ^^ (i && wB v)) ^^ (j && wB u)
def Qp (p u v : Int) (i j : Bool) : Bool := ((i && (j && odd ((p - 1) / 2))) ^^ (j && rB u p)) ^^ (i && rB v p)
def hB (a b p : Int) : Bool := if p = 0 then decide (a < 0) && decide (b < 0) else if p = 2 then Q2 (unt a 2) (unt b 2) (odd (ord a 2 : Nat)) (odd (ord b 2 : Nat)) else Qp p (unt a p) (unt b p) (odd (ord a p : Nat)) (odd (ord b p : Nat))
theorem hs_X (a b p : Int) : hs a b p = X (hB a b p) := by
  unfold hs hB
  split
  · rfl
  · split
    · unfold hs2 told2 Q2
      rw [odd_add, odd_add, odd_mul, odd_mul, odd_mul]
      rfl
    · unfold hsp hsp1 hsp0 Qp
      rw [rs_X, rs_X, X_xor, X_xor]
      cases odd (ord a p : Nat) <;> cases odd (ord b p : Nat) <;> cases odd ((p - 1) / 2) <;> cases rB (unt a p) p <;> cases rB (unt b p) p <;> rfl
theorem unt2 {n : Int} (h : n ≠ 0) : unt n 2 % 2 ≠ 0 := (ord_spec (by decide) h).2
theorem hB_mul {a b c p : Int} (hp : p ∈ 0 :: prs) (ha : a ≠ 0) (hb : b ≠ 0) (hc : c ≠ 0) : hB a (b * c) p = (hB a b p ^^ hB a c p) := by
  unfold hB
  split
  · have e : decide (b * c < 0) = (decide (b < 0) ^^ decide (c < 0)) := by
      rcases Int.lt_or_gt_of_ne hb with h1 | h1 <;> rcases Int.lt_or_gt_of_ne hc with h2 | h2
      · have := Int.mul_pos_of_neg_of_neg h1 h2
        have e : ¬ b * c < 0 := by omega
        simp [h1, h2, e]
      · have := Int.mul_neg_of_neg_of_pos h1 h2
        have e : ¬ c < 0 := by omega
        simp [h1, this, e]
      · have := Int.mul_neg_of_pos_of_neg h1 h2
        have e : ¬ b < 0 := by omega
        simp [h2, this, e]
      · have := Int.mul_pos h1 h2
        have e1 : ¬ b < 0 := by omega
        have e2 : ¬ c < 0 := by omega
        have e3 : ¬ b * c < 0 := by omega
        simp [e1, e2, e3]
    rw [e]
    cases decide (a < 0) <;> simp
  · rename_i h0
    have hpp : p ∈ prs := by
      rcases List.mem_cons.mp hp with h | h
      · exact absurd h h0
      · exact h
    split
    · rename_i h2
      subst h2
      obtain ⟨o1, o2⟩ := ord_mul (prs_pr 2 hpp) hb hc
      obtain ⟨m1, m2⟩ := mulr (unt2 hb) (unt2 hc)
      unfold Q2
      rw [o1, o2, odd_nat, m1, m2]
      cases eB (unt a 2) <;> cases wB (unt a 2) <;> cases odd (ord a 2 : Nat) <;> simp
      all_goals (cases eB (unt b 2) <;> cases eB (unt c 2) <;> cases wB (unt b 2) <;> cases wB (unt c 2) <;> cases odd (ord b 2 : Nat) <;> cases odd (ord c 2 : Nat) <;> rfl)
    · rename_i h2
      have P := prs_pr p hpp
      obtain ⟨o1, o2⟩ := ord_mul P hb hc
      have m := rB_mul (odd_prs hpp h2) (ord_spec P.two hb).2 (ord_spec P.two hc).2
      unfold Qp
      rw [o1, o2, odd_nat, m]
      cases rB (unt a p) p <;> cases odd (ord a p : Nat) <;> cases odd ((p - 1) / 2) <;> simp
      all_goals (cases rB (unt b p) p <;> cases rB (unt c p) p <;> cases odd (ord b p : Nat) <;> cases odd (ord c p : Nat) <;> rfl)
theorem hs_mul {a b c p : Int} (hp : p ∈ 0 :: prs) (ha : a ≠ 0) (hb : b ≠ 0) (hc : c ≠ 0) : hs a (b * c) p = hs a b p * hs a c p := by rw [hs_X, hs_X, hs_X, hB_mul hp ha hb hc, X_xor]
theorem hs_mul' {a b c p : Int} (hp : p ∈ 0 :: prs) (ha : a ≠ 0) (hb : b ≠ 0) (hc : c ≠ 0) : hs (b * c) a p = hs b a p * hs c a p := by rw [hs_symm, hs_mul hp ha hb hc, hs_symm a b, hs_symm a c]
theorem hs_dbl (a b p : Int) : hs a b p * hs a b p = 1 := by rcases hs_pm a b p with h | h <;> rw [h] <;> rfl
theorem hs_sq {a b k p : Int} (hp : p ∈ 0 :: prs) (ha : a ≠ 0) (hb : b ≠ 0) (hk : k ≠ 0) : hs a (b * (k * k)) p = hs a b p := by rw [hs_mul hp ha hb (Int.mul_ne_zero hk hk), hs_mul hp ha hk hk, hs_dbl, Int.mul_one]
theorem hs_neg {a p : Int} (hp : p ∈ 0 :: prs) (ha : a ≠ 0) : hs a (-a) p = 1 := by
  rw [hs_X]
  have : hB a (-a) p = false := by
    unfold hB
    split
    · by_cases h : a < 0
      · rw [decide_eq_false (show ¬ -a < 0 by omega), Bool.and_false]
      · rw [decide_eq_false h, Bool.false_and]
    · rename_i h0
      have hpp : p ∈ prs := by
        rcases List.mem_cons.mp hp with h | h
        · exact absurd h h0
        · exact h
      split
      · rename_i h2
        subst h2
        obtain ⟨o1, o2⟩ := ord_neg (p := 2) (by decide) ha
        obtain ⟨m1, m2⟩ := negr (unt2 ha)
        unfold Q2
        rw [o1, o2, m1, m2]
        cases eB (unt a 2) <;> cases wB (unt a 2) <;> cases odd (ord a 2 : Nat) <;> rfl
      · rename_i h2
        have P := prs_pr p hpp
        have hpo := odd_prs hpp h2
        obtain ⟨o1, o2⟩ := ord_neg P.two ha
        have m := rB_mul hpo (u := -1) (v := unt a p) (one_mod p hpo) (ord_spec P.two ha).2
        rw [Int.neg_one_mul, rB_neg1 p hpo] at m
        unfold Qp
        rw [o1, o2, m]
        cases rB (unt a p) p <;> cases odd (ord a p : Nat) <;> cases odd ((p - 1) / 2) <;> rfl
  rw [this]
  rfl
theorem hs_self {a p : Int} (hp : p ∈ 0 :: prs) (ha : a ≠ 0) : hs a a p = hs (-1) a p := by
  have h := hs_neg hp ha
  rw [show -a = (-1) * a by omega, hs_mul hp ha (by decide) ha] at h
  rw [hs_symm (-1) a]
  rcases hs_pm a (-1) p with e | e <;> rcases hs_pm a a p with e' | e' <;> rw [e, e'] at h ⊢ <;> first | rfl | (exact absurd h (by decide))
theorem eB1 {u : Int} (h : u % 8 = 1) : eB u = false ∧ wB u = false := by
  have e : u = 8 * (u / 8) + 1 := by omega
  rw [e, eB_of _ _ (by decide), wB_of _ _ (by decide)]
  exact ⟨rfl, rfl⟩
/-- a square at a place has the sign 1 with all -/
theorem hs_isq {n c p : Int} (hp : p ∈ 0 :: prs) (h : isq n p = true) : hs n c p = 1 := by
  rw [hs_X]
  have : hB n c p = false := by
    unfold isq at h
    unfold hB
    split
    · rename_i h0
      rw [if_pos h0] at h
      have h : 0 < n := by simpa using h
      have : ¬ n < 0 := by omega
      simp [this]
    · rename_i h0
      rw [if_neg h0] at h
      split at h
      · cases h
      · rename_i ho
        have ho : odd (ord n p : Nat) = false := by simpa using ho
        split
        · rename_i h2
          subst h2
          rw [if_pos rfl] at h
          obtain ⟨m1, m2⟩ := eB1 (by simpa using h)
          unfold Q2
          rw [m1, m2, ho]
          simp
        · rename_i h2
          rw [if_neg h2] at h
          have : rB (unt n p) p = false := by
            unfold rB
            have : rs (unt n p) p = 1 := by simpa using h
            rw [this]; rfl
          unfold Qp
          rw [this, ho]
          simp
  rw [this]
  rfl
/-- at a further prime all signs are 1 -/
theorem hs_far {a b p : Int} (hp : p ∈ oddP) (ha : a % p ≠ 0) (hb : b % p ≠ 0) : hs a b p = 1 := by
  obtain ⟨h3, hpp, _⟩ := oddP_bd p hp
  have o1 := (ord_stop (p := p) (by omega) (fun z => ha (by rw [z]; simp)) ha).1
  have o2 := (ord_stop (p := p) (by omega) (fun z => hb (by rw [z]; simp)) hb).1
  rw [hs_X]
  unfold hB
  rw [if_neg (by omega), if_neg (by intro z; subst z; exact absurd hp (by decide)), o1, o2]
  rfl
end NF
end

section
set_option autoImplicit false
/-! NI: one weight more or less in a form; no program in sight. -/
namespace NF
theorem snoc_ind {P : List Int → Prop} (h0 : P []) (h : ∀ F w, P F → P (F ++ [w])) : ∀ F, P F := by
  intro F
  have : ∀ n (F : List Int), F.length = n → P F := by
    intro n
    induction n with
    | zero => intro F hF; rw [List.length_eq_zero_iff.mp hF]; exact h0
    | succ n ih =>
      intro F hF
      have hne : F ≠ [] := fun z => by rw [z] at hF; simp at hF
      rw [← List.dropLast_concat_getLast hne]
      exact h _ _ (ih _ (by rw [List.length_dropLast]; omega))
  exact this F.length F rfl
theorem rowP_app (w p : Int) : ∀ F H : List Int, rowP w p (F ++ H) = rowP w p F * rowP w p H
  | [], H => by simp [rowP]
  | u :: F, H => by rw [List.cons_append, rowP_cons, rowP_cons, rowP_app w p F H, Int.mul_assoc]
/-- the signs of a weight with a form's weights: the sign with the form's part -/
theorem rowP_part {w p : Int} (hp : p ∈ 0 :: prs) (hw : w ≠ 0) : ∀ F : List Int, (∀ x ∈ F, Smo x) → rowP w p F = hs w (part F) p := by
  refine snoc_ind ?_ ?_
  · intro _
    rw [part_nil]
    have h := hs_sq (a := w) (b := 1) (k := 1) hp hw (by decide) (by decide)
    have h2 := hs_mul (a := w) (b := 1) (c := 1) hp hw (by decide) (by decide)
    rw [hs_dbl] at h2
    rw [show (1 : Int) * 1 = 1 from rfl] at h2
    rw [h2]
    rfl
  · intro F u ih h
    have hu := h u (by simp)
    obtain ⟨k, hk, e⟩ := part_snoc F hu
    have e2 := hs_sq (k := k) hp hw (part_ne (F ++ [u])) hk
    rw [← e, hs_mul hp hw (part_ne F) hu.1] at e2
    rw [← e2, rowP_app, ih fun x hx => h x (by simp [hx])]
    congr 1
    rw [rowP_cons]
    simp [rowP]
theorem fs_cons (p w : Int) (F : List Int) : fs (w :: F) p = rowP w p F * fs F p := by
  unfold fs
  rw [fsg, fsg_mul]
  congr 1
theorem fs_mid (p w : Int) : ∀ A B : List Int, fs (A ++ w :: B) p = fs (A ++ B) p * rowP w p (A ++ B)
  | [], B => by rw [List.nil_append, List.nil_append, fs_cons, Int.mul_comm]
  | a :: A, B => by
    have e1 : rowP a p (A ++ w :: B) = rowP a p (A ++ B) * hs a w p := by
      rw [rowP_app, rowP_cons, rowP_app]
      simp only [Int.mul_assoc, Int.mul_left_comm, Int.mul_comm]
    rw [List.cons_append, List.cons_append, fs_cons, fs_cons, rowP_cons, fs_mid p w A B, e1, hs_symm a w]
    simp only [Int.mul_assoc, Int.mul_left_comm, Int.mul_comm]
theorem part_congr {F H : List Int} (h1 : ∀ p, (F.map fun w => ord w p).sum = (H.map fun w => ord w p).sum) (h2 : negs F = negs H) : part F = part H := by
  rw [part_sign, part_sign, h2, pp_congr (e := par F) (f := par H) fun p _ => by rw [par_mod, par_mod, h1]]
theorem part_mid (w : Int) (A B : List Int) : part (A ++ w :: B) = part ((A ++ B) ++ [w]) := by
  refine part_congr (fun p => ?_) ?_
  · simp; omega
  · unfold negs
    simp only [List.filter_append, List.filter_cons, List.length_append, List.filter_nil]
    split <;> simp <;> omega
theorem above_mid (w : Int) (A B : List Int) : above (A ++ w :: B) = above (A ++ B) + if 0 < w then 1 else 0 := by
  unfold above
  simp only [List.filter_append, List.filter_cons, List.length_append]
  by_cases h : 0 < w
  · simp [h]; omega
  · simp [h]
theorem above_le (F : List Int) : 0 ≤ above F ∧ above F ≤ (F.length : Nat) := by
  unfold above
  have := List.length_filter_le (fun w => decide (0 < w)) F
  omega
theorem least_pos (F : List Int) : 0 < least F ↔ 0 < above F ∧ above F < (F.length : Nat) := by
  unfold least
  split <;> omega
theorem least_mid (w : Int) (A B : List Int) (h : 0 < least (A ++ B)) : 0 < least (A ++ w :: B) := by
  rw [least_pos] at h ⊢
  rw [above_mid]
  simp only [List.length_append, List.length_cons] at h ⊢
  split <;> omega
theorem plc_mem {F : List Int} {p : Int} : p ∈ plc F ↔ p ∈ prs ∧ (p = 2 ∨ ∃ w ∈ F, w % p = 0) := by
  unfold plc
  simp [List.mem_filter]
/-- far from a form its sign is 1 -/
theorem rowP_far {w p : Int} (hp : p ∈ oddP) (hw : w % p ≠ 0) : ∀ F : List Int, (∀ x ∈ F, x % p ≠ 0) → rowP w p F = 1
  | [], _ => rfl
  | u :: F, h => by rw [rowP_cons, hs_far hp hw (h u (by simp)), rowP_far hp hw F fun x hx => h x (by simp [hx])]; rfl
theorem fs_far {p : Int} (hp : p ∈ oddP) : ∀ F : List Int, (∀ x ∈ F, x % p ≠ 0) → fs F p = 1
  | [], _ => rfl
  | u :: F, h => by rw [fs_cons, rowP_far hp (h u (by simp)) F fun x hx => h x (by simp [hx]), fs_far hp F fun x hx => h x (by simp [hx])]; rfl
theorem hs_ord0 {a b p : Int} (hp : p ∈ oddP) (ha : ord a p = 0) (hb : ord b p = 0) : hs a b p = 1 := by
  obtain ⟨h3, hpp, _⟩ := oddP_bd p hp
  rw [hs_X]
  unfold hB
  rw [if_neg (by omega), if_neg (by intro z; subst z; exact absurd hp (by decide)), ha, hb]
  rfl
theorem ord_part {p : Int} (hp : p ∈ prs) (F : List Int) : ord (part F) p = par F p := by
  have P := prs_pr p hp
  rw [part_sign]
  have := pp_pos (par F) prs_bd2
  split
  · rw [(ord_neg P.two (by omega)).1, ord_ppr hp]
  · rw [ord_ppr hp]
theorem par_far {p : Int} (hp : 2 ≤ p) {F : List Int} (h : ∀ x ∈ F, x % p ≠ 0) : par F p = 0 := by
  rw [par_mod]
  have : (F.map fun w => ord w p) = F.map fun _ => 0 := List.map_congr_left fun x hx => (ord_stop hp (fun z => h x hx (by rw [z]; simp)) (h x hx)).1
  rw [this]
  have : ∀ l : List Int, (l.map fun _ => 0).sum = 0 := by
    intro l
    induction l with
    | nil => rfl
    | cons a l ih => simp [ih]
  rw [this]
theorem three_far {p : Int} (hp : p ∈ oddP) {F : List Int} (h : ∀ x ∈ F, x % p ≠ 0) : fs F p = hs (-1) (-part F) p := by
  obtain ⟨h3, hpp, _⟩ := oddP_bd p hp
  rw [fs_far hp F h, hs_ord0 hp]
  · exact (ord_stop (by omega) (by decide) (one_mod p hp)).1
  · rw [(ord_neg (by omega) (part_ne F)).1, ord_part hpp, par_far (by omega) h]
/-- a form that gives nought gives it with one weight more -/
theorem nought_mid {w : Int} {A B : List Int} (hs0 : ∀ x ∈ A ++ w :: B, Smo x) (hl : (A ++ B).length ≤ 3) (hn : nought (A ++ B) = true) : nought (A ++ w :: B) = true := by
  have hw : w ≠ 0 := (hs0 w (by simp)).1
  have hsF : ∀ x ∈ A ++ B, Smo x := fun x hx => hs0 x (by
    rcases List.mem_append.mp hx with h | h <;> simp [h])
  have hfm := fun p => fs_mid p w A B
  obtain ⟨k, hk, hpt⟩ := part_snoc (A ++ B) (hs0 w (by simp))
  rw [← part_mid] at hpt
  have hlm := least_mid w A B
  have hlen : (A ++ w :: B).length = (A ++ B).length + 1 := by simp; omega
  have hpl : ∀ p, p ∈ plc (A ++ w :: B) → p ∈ plc (A ++ B) ∨ (p ∈ oddP ∧ ∀ x ∈ A ++ B, x % p ≠ 0) := fun p hp => by
    obtain ⟨h1, h2⟩ := plc_mem.mp hp
    by_cases h3 : p ∈ plc (A ++ B)
    · exact .inl h3
    · right
      refine ⟨odd_prs h1 fun z => h3 (plc_mem.mpr ⟨h1, .inl z⟩), fun x hx z => h3 (plc_mem.mpr ⟨h1, .inr ⟨x, hx, z⟩⟩)⟩
  generalize hF : A ++ B = F at *
  generalize hF' : A ++ w :: B = F' at *
  have hpF := part_ne F
  have hpF' := part_ne F'
  -- the sign of the form
  have hfs : ∀ p ∈ 0 :: prs, fs F' p = fs F p * hs w (part F) p := fun p hp => by rw [hfm, rowP_part hp hw F hsF]
  have hlast : ∀ p ∈ 0 :: prs, ∀ a, a ≠ 0 → hs a (part F) p * hs a w p = hs a (part F') p := fun p hp a ha => by
    have := hs_sq (k := k) hp ha hpF' hk
    rw [← hpt, hs_mul hp ha hpF hw] at this
    exact this
  unfold nought at hn
  by_cases c1 : (((F.length : Nat) : Int) == 1) = true
  · rw [if_pos c1] at hn
    exact absurd hn (by decide)
  rw [if_neg c1] at hn
  have l0 : F.length ≠ 0 := fun z => by
    have : F = [] := List.length_eq_zero_iff.mp z
    subst this
    revert hn
    decide +kernel
  have l1 : F.length ≠ 1 := fun z => c1 (by simp [z])
  have n1 : ¬ (((F'.length : Nat) : Int) == 1) = true := by simp; omega
  have n2 : ¬ (((F'.length : Nat) : Int) == 2) = true := by simp; omega
  have fin : 0 < least F' → (∀ p ∈ plc F', givesW F' (part F') p = true) → nought F' = true := fun h1 h2 => by
    unfold nought
    rw [if_neg n1, if_neg n2, if_neg (by simp; omega)]
    refine List.all_eq_true.mpr fun b hb => ?_
    obtain ⟨p, hp, rfl⟩ := List.mem_map.mp hb
    rcases List.mem_cons.mp hp with rfl | hp
    · unfold givesW
      rw [if_pos (by decide)]
      simpa using h1
    · exact h2 p hp
  by_cases c2 : (((F.length : Nat) : Int) == 2) = true
  · rw [if_pos c2] at hn
    have hm1 : part F = -1 := by simpa using hn
    have l2 : F.length = 2 := by
      have : ((F.length : Nat) : Int) = 2 := by simpa using c2
      omega
    obtain ⟨a, b, rfl⟩ : ∃ a b, F = [a, b] := by
      match F, l2 with
      | [a, b], _ => exact ⟨a, b, rfl⟩
    have ha := hsF a (by simp)
    have hb := hsF b (by simp)
    have hle : 0 < least [a, b] := by
      have hng : negs [a, b] % 2 = 1 := by
        have := part_sign [a, b]
        rw [hm1] at this
        have hpos := pp_pos (par [a, b]) prs_bd2
        split at this
        · assumption
        · omega
      have ha0 := ha.1
      have hb0 := hb.1
      unfold negs neg at hng
      rw [least_pos]
      unfold above
      simp only [List.filter_cons, List.filter_nil, List.length_cons, List.length_nil] at hng ⊢
      by_cases a1 : a < 0
      · have a2 : ¬ 0 < a := by omega
        by_cases b1 : b < 0
        · simp [a1, b1] at hng
        · have b2 : 0 < b := by omega
          simp [a2, b2]
      · have a2 : 0 < a := by omega
        by_cases b1 : b < 0
        · have b2 : ¬ 0 < b := by omega
          simp [a2, b2]
        · simp [a1, b1] at hng
    refine fin (hlm hle) fun p hp => ?_
    have hpp := (plc_mem.mp hp).1
    have hz : p ∈ 0 :: prs := List.mem_cons_of_mem _ hpp
    have hp2 := prs_bd2 p hpp
    have hab : hs a b p = 1 := by
      obtain ⟨k1, hk1, e1⟩ := part_snoc [] ha
      obtain ⟨k2, hk2, e2⟩ := part_snoc [a] hb
      rw [part_nil, Int.one_mul] at e1
      have e3 : part [a] * b = (-1) * (k2 * k2) := by
        rw [e2]
        show part [a, b] * _ = _
        rw [hm1]
      have e1 : a = part [a] * (k1 * k1) := e1
      have q1 := hs_sq (a := a) (b := part [a] * b) (k := k1) hz ha.1 (Int.mul_ne_zero (part_ne _) hb.1) hk1
      have e4 : part [a] * b * (k1 * k1) = a * b := by rw [Int.mul_right_comm, ← e1]
      rw [e4, e3, hs_sq hz ha.1 (by decide) hk2, hs_mul hz ha.1 ha.1 hb.1, hs_self hz ha.1, hs_symm (-1) a] at q1
      rcases hs_pm a (-1) p with e | e <;> rw [e] at q1 <;> omega
    have hf2 : fs [a, b] p = 1 := by
      have : fs [a, b] p = 1 * (1 * hs a b p) := by
        rw [fs_cons, fs_cons, rowP_cons]
        simp [rowP, fs, fsg]
      rw [this, hab]
      rfl
    have hl3 : F'.length = 3 := by omega
    have hf := hfs p hz
    rw [hf2, hm1, Int.one_mul] at hf
    -- -part F' times a square is w
    have hq : hs (-1) (-part F') p = hs (-1) w p := by
      have := hs_sq (a := -1) (b := -part F') (k := k) hz (by decide) (by omega) hk
      rw [← this, Int.neg_mul, ← hpt, hm1]
      congr 1
      omega
    unfold givesW
    rw [if_neg (by simp; omega), if_neg (by simp [hl3]), if_neg (by simp [hl3]), if_pos (by simp [hl3]), hf, hq, hs_symm w]
    simp
  · rw [if_neg c2] at hn
    have l2 : F.length ≠ 2 := fun z => c2 (by simp [z])
    have l3 : F.length = 3 := by omega
    have hl4 : F'.length = 4 := by omega
    by_cases c3 : ((least F == 0) || decide (4 < ((F.length : Nat) : Int))) = true
    · rw [if_pos c3] at hn
      have hn : 0 < least F := by simpa using hn
      have : least F = 0 := by simpa [l3] using c3
      omega
    · rw [if_neg c3] at hn
      have hall : ∀ p ∈ 0 :: plc F, givesW F (part F) p = true := fun p hp => List.all_eq_true.mp hn _ (List.mem_map.mpr ⟨p, hp, rfl⟩)
      have hle : 0 < least F := by
        have := hall 0 (by simp)
        unfold givesW at this
        rw [if_pos (by decide)] at this
        simpa using this
      refine fin (hlm hle) fun p hp => ?_
      have hpp := (plc_mem.mp hp).1
      have hz : p ∈ 0 :: prs := List.mem_cons_of_mem _ hpp
      have hp2 := prs_bd2 p hpp
      have h3 : fs F p = hs (-1) (-part F) p := by
        rcases hpl p hp with h | ⟨h, h'⟩
        · have := hall p (List.mem_cons_of_mem _ h)
          unfold givesW at this
          rw [if_neg (by simp; omega), if_neg (by simp [l3]), if_neg (by simp [l3]), if_pos (by simp [l3])] at this
          simpa using this
        · exact three_far h h'
      unfold givesW
      rw [if_neg (by simp; omega), if_neg (by simp [hl4]), if_neg (by simp [hl4]), if_neg (by simp [hl4])]
      by_cases cq : isq (part F') p = true
      · rw [if_pos cq]
        have q1 : ∀ a, a ≠ 0 → hs a (part F) p = hs a w p := fun a ha => by
          have := hlast p hz a ha
          rw [hs_symm a (part F'), hs_isq hz cq] at this
          rcases hs_pm a (part F) p with e | e <;> rcases hs_pm a w p with e' | e' <;> rw [e, e'] at this ⊢ <;> first | rfl | (exact absurd this (by decide))
        have q2 : fs F' p = hs (-1) (-1) p := by
          rw [hfs p hz, h3, show -part F = (-1) * part F by omega, hs_mul hz (by decide) (by decide) hpF, q1 w hw, hs_self hz hw, q1 (-1) (by decide), Int.mul_assoc, hs_dbl, Int.mul_one]
        rw [q2]
        simp
      · rw [if_neg cq]
end NF
end

section
set_option autoImplicit false
set_option maxHeartbeats 4000000
/-! S10: values that show; bars are never none where nought is not given. -/
namespace NF
theorem bars_ne {form : List Int} (hz : ∀ w ∈ form, w ≠ 0) (h1 : 1 ≤ form.length) (h4 : form.length ≤ 4) (hn : nought form = false) : bars form ≠ [] := by
  have mem : ∀ {p : Int}, p ∈ look form → ¬ (((form.length : Nat) : Int) == 1) = true → givesW form (part form) p = false → bars form ≠ [] := by
    intro p hp hl hg e
    unfold bars at e
    rw [if_neg hl] at e
    have : p ∈ (look form).filter fun p => !givesW form (part form) p := List.mem_filter.mpr ⟨hp, by simp [hg]⟩
    rw [e] at this
    simp at this
  have mem0 : ¬ (((form.length : Nat) : Int) == 1) = true → (0 < least form → False) → bars form ≠ [] := fun hl h0 => mem (p := 0) (by unfold look; split <;> simp) hl (by
    unfold givesW
    rw [if_pos (by decide)]
    exact decide_eq_false h0)
  by_cases c1 : (((form.length : Nat) : Int) == 1) = true
  · unfold bars
    rw [if_pos c1]
    simp
  unfold nought at hn
  rw [if_neg c1] at hn
  by_cases c2 : (((form.length : Nat) : Int) == 2) = true
  · rw [if_pos c2] at hn
    have hpart : part form ≠ -1 := by simpa using hn
    by_cases c0 : 0 < least form
    · have hneg : (form.filter fun w => decide (w < 0)).length = 1 := by
        have l2 : form.length = 2 := by
          have : ((form.length : Nat) : Int) = 2 := by simpa using c2
          omega
        obtain ⟨a, b, rfl⟩ : ∃ a b, form = [a, b] := by
          match form, l2 with
          | [a, b], _ => exact ⟨a, b, rfl⟩
        have ha := hz a (by simp)
        have hb := hz b (by simp)
        unfold least above at c0
        simp only [List.filter_cons, List.filter_nil, List.length_cons, List.length_nil] at c0 ⊢
        by_cases a1 : a < 0
        · have a2 : ¬ 0 < a := by omega
          by_cases b1 : b < 0
          · have b2 : ¬ 0 < b := by omega
            simp [a2, b2] at c0
          · simp [a1, b1]
        · have a2 : 0 < a := by omega
          by_cases b1 : b < 0
          · simp [a1, b1]
          · have b2 : 0 < b := by omega
            simp [a2, b2] at c0
      have hp : part form = -parA form := by
        unfold part
        rw [hneg, if_pos (by decide)]
      have hA : parA form ≠ 1 := fun z => hpart (by rw [hp, z])
      obtain ⟨p, hpm, ho⟩ : ∃ p ∈ prs, par form p = 1 := by
        apply Classical.byContradiction
        intro hno
        apply hA
        rw [parA_pp, pp_congr (f := fun _ => 0) fun p hp => by
          have : par form p ≠ 1 := fun z => hno ⟨p, hp, z⟩
          unfold par at this ⊢
          split
          · rename_i h
            rw [if_pos h] at this
            exact absurd rfl this
          · rfl]
        decide
      have p2 := prs_bd2 p hpm
      refine mem (p := p) (by unfold look; rw [if_pos c2]; exact List.mem_cons_of_mem _ hpm) c1 ?_
      have e0 : (p == 0) = false := by simpa using (show p ≠ 0 by omega)
      have e2 : ¬ (decide (((form.length : Nat) : Int) < 2) || decide (4 < ((form.length : Nat) : Int))) = true := by
        have : ((form.length : Nat) : Int) = 2 := by simpa using c2
        simp [this]
      unfold givesW
      rw [e0, if_neg (by decide), if_neg e2, if_pos c2, hp, Int.neg_neg, parA_pp]
      unfold isq
      rw [if_neg (by omega), ord_ppr hpm, ho, if_pos (by decide)]
    · exact mem0 c1 c0
  · rw [if_neg c2] at hn
    by_cases c3 : ((least form == 0) || decide (4 < ((form.length : Nat) : Int))) = true
    · rw [if_pos c3] at hn
      exact mem0 c1 (by simpa using hn)
    · rw [if_neg c3] at hn
      obtain ⟨b, hb, hf⟩ := List.all_eq_false.mp hn
      obtain ⟨p, hp, rfl⟩ := List.mem_map.mp hb
      exact mem (p := p) (by unfold look; rw [if_neg c2]; exact hp) c1 (by simpa using hf)
end NF
namespace PI
open PySem (Str PyData)
open NF
theorem lc_h {step : W → Hh → R (Option W)} : ∀ {xs : List W}, (∀ x ∈ xs, ∀ G, ∃ G', step x G = .ok (some (.bl true)) G') → ∀ G, ∃ G', lcRun step xs G = .ok (xs.map fun _ => .bl true) G'
  | [], _, G => ⟨G, rfl⟩
  | x :: xs, h, G => by
    obtain ⟨G1, e1⟩ := h x (by simp) G
    obtain ⟨G2, e2⟩ := lc_h (xs := xs) (fun y hy => h y (by simp [hy])) G1
    exact ⟨G2, by simp only [lcRun, e1, bindOk, e2, Option.toList, List.singleton_append, List.map_cons]⟩
theorem bls_true : ∀ (xs : List W), (blsOf (xs.map fun _ => W.bl true)) = some (xs.map fun _ => true)
  | [] => rfl
  | x :: xs => by simp only [List.map_cons, blsOf, bls_true xs, Option.map]
/-! ### values that show -/
def Pl (n m : Nat) (w : W) : Prop := ∃ d, (∀ G, toD G w = some d) ∧ shw d = true ∧ nodes d ≤ n ∧ d.canLay0 = true ∧ d.depth ≤ m
def Pls (n m : Nat) (ws : List W) : Prop := ∃ ds, (∀ G, toDs G ws = some ds) ∧ shws ds = true ∧ nodess ds ≤ n ∧ PySem.PyData.canLayAll0 ds = true ∧ PySem.PyData.depthAll ds ≤ m
theorem Pls.nil (m : Nat) : Pls 0 m [] := ⟨[], fun _ => rfl, rfl, by simp [nodess], by simp [PySem.PyData.canLayAll0], by simp [PySem.PyData.depthAll]⟩
theorem Pls.cons {a b m : Nat} {w : W} {ws : List W} (h : Pl a m w) (t : Pls b m ws) : Pls (a + b) m (w :: ws) := by
  obtain ⟨d, h1, h2, h3, h4, h5⟩ := h
  obtain ⟨ds, t1, t2, t3, t4, t5⟩ := t
  exact ⟨d :: ds, fun G => by simp [toDs, h1 G, t1 G], by simp [shws, h2, t2], by simp only [nodess]; omega, by simp [PySem.PyData.canLayAll0, h4, t4], by simp only [PySem.PyData.depthAll]; omega⟩
theorem Pl.tup {n m : Nat} {ws : List W} (h : Pls n m ws) : Pl (1 + n) (m + 1) (.tup ws) := by
  obtain ⟨d, h1, h2, h3, h4, h5⟩ := h
  exact ⟨.tuple d, fun G => by simp [toD, h1 G], by simp [shw, h2], by simp only [nodes]; omega, by simp [PySem.PyData.canLay0, h4], by simp only [PySem.PyData.depth]; omega⟩
theorem Pl.lst {n m : Nat} {ws : List W} (h : Pls n m ws) : Pl (1 + n) (m + 1) (.lst ws) := by
  obtain ⟨d, h1, h2, h3, h4, h5⟩ := h
  exact ⟨.list d, fun G => by simp [toD, h1 G], by simp [shw, h2], by simp only [nodes]; omega, by simp [PySem.PyData.canLay0, h4], by simp only [PySem.PyData.depth]; omega⟩
theorem Pl.le {n m n' m' : Nat} {w : W} (h : Pl n m w) (a : n ≤ n') (b : m ≤ m') : Pl n' m' w := by
  obtain ⟨d, h1, h2, h3, h4, h5⟩ := h
  exact ⟨d, h1, h2, by omega, h4, by omega⟩
theorem Pls.le {n m n' m' : Nat} {w : List W} (h : Pls n m w) (a : n ≤ n') (b : m ≤ m') : Pls n' m' w := by
  obtain ⟨d, h1, h2, h3, h4, h5⟩ := h
  exact ⟨d, h1, h2, by omega, h4, by omega⟩
theorem Pls.all {a m : Nat} : ∀ {ws : List W}, (∀ w ∈ ws, Pl a m w) → Pls (a * ws.length) m ws
  | [], _ => Pls.nil m
  | w :: ws, h => (Pls.cons (h w (by simp)) (Pls.all fun x hx => h x (by simp [hx]))).le (by simp [Nat.mul_add]; omega) (Nat.le_refl _)
theorem Pl.int (i : Int) (h : i.natAbs < 1000000000000) (m : Nat) : Pl 1 m (.int i) := ⟨.int i, fun _ => rfl, by simp only [shw, decide_eq_true_eq]; omega, by simp [nodes], by simp [PySem.PyData.canLay0], by simp [PySem.PyData.depth]⟩
theorem Pl.bl (b : Bool) (m : Nat) : Pl 1 m (.bl b) := ⟨.bool b, fun _ => rfl, rfl, by simp [nodes], by simp [PySem.PyData.canLay0], by simp [PySem.PyData.depth]⟩
theorem Pl.str (s : Str) (h : s.length ≤ 100) (hk : PySem.PyData.strOk s = true) (m : Nat) : Pl 1 m (.str s) := ⟨.str s, fun _ => rfl, by simp [shw, h], by simp [nodes], by simp [PySem.PyData.canLay0, hk], by simp [PySem.PyData.depth]⟩
theorem Pl.repr {n m : Nat} {w : W} (h : Pl n m w) (hn : n ≤ 1000) (hm : m ≤ 64) : ∃ s, ∀ G, evBi .repr [w] G = some (.str s) := by
  obtain ⟨d, h1, h2, h3, h4, h5⟩ := h
  have hr : ∀ G, toDr G w = some d := by
    intro G
    cases w with
    | ref n => have := h1 []; simp [toD] at this
    | _ => exact h1 G
  have hs : PySem.SeqAt.shaped d = true := by
    have : decide (d.depth ≤ 64) = true := decide_eq_true (by omega)
    simp only [PySem.SeqAt.shaped, h4, this, Bool.and_self]
  refine ⟨d.shown, fun G => ?_⟩
  have hc : shw d = true ∧ nodes d ≤ 1000 ∧ PySem.SeqAt.shaped d = true := ⟨h2, by omega, hs⟩
  simp only [evBi, ev1, evRepr, hr G, if_pos hc]
def DPl (d : Deed) : Prop := d.ok 99
theorem deed_pl {d : Deed} (h : d.ok 99) : Pl 4 1 d.W := by
  cases d with
  | tk i => exact (Pl.tup (Pls.cons (Pl.str _ (by decide) (by first | rfl | decide +kernel | simp [PySem.PyData.strOk]) 0) (Pls.cons (Pl.int _ (by have : i ≤ 1000 := h; omega) 0) (Pls.nil 0)))).le (by decide) (by decide)
  | tn i w => exact (Pl.tup (Pls.cons (Pl.str _ (by decide) (by first | rfl | decide +kernel | simp [PySem.PyData.strOk]) 0) (Pls.cons (Pl.int _ (by have := h.1; omega) 0) (Pls.cons (Pl.int _ (by have := h.2.2; omega) 0) (Pls.nil 0))))).le (by decide) (by decide)
  | pt w => exact (Pl.tup (Pls.cons (Pl.str _ (by decide) (by first | rfl | decide +kernel | simp [PySem.PyData.strOk]) 0) (Pls.cons (Pl.int _ (by have := h.2; omega) 0) (Pls.nil 0)))).le (by decide) (by decide)
theorem deeds_pl {deeds : List Deed} (h : ∀ d ∈ deeds, d.ok 99) : Pl (1 + 4 * deeds.length) 2 (.tup (deeds.map Deed.W)) := by
  have := Pls.all (a := 4) (m := 1) (ws := deeds.map Deed.W) fun w hw => by
    obtain ⟨d, hd, rfl⟩ := List.mem_map.mp hw
    exact deed_pl (h d hd)
  rw [List.length_map] at this
  exact Pl.tup this
theorem ints_pl {l : List Int} {n : Nat} (h : ∀ w ∈ l, w.natAbs < 1000000000000) (hl : l.length ≤ n) : Pls n 0 (l.map W.int) := by
  have := Pls.all (a := 1) (m := 0) (ws := l.map W.int) fun w hw => by
    obtain ⟨d, hd, rfl⟩ := List.mem_map.mp hw
    exact Pl.int d (h d hd) 0
  rw [List.length_map] at this
  exact this.le (by omega) (Nat.le_refl _)
theorem bars_len (form : List Int) : (bars form).length ≤ 26 ∧ ∀ p ∈ bars form, p ∈ 0 :: prs := by
  unfold bars
  split
  · simp
  · refine ⟨Nat.le_trans (List.length_filter_le _ _) ?_, fun p hp => look_in (List.mem_filter.mp hp).1⟩
    unfold look
    split
    · decide
    · have : (plc form).length ≤ prs.length := List.length_filter_le _ _
      have : prs.length = 25 := rfl
      simp; omega
theorem told_pl {form : List Int} (hf : Dw 99 form) (hl : form.length ≤ 5) : Pl 42 2 (toldW form) := by
  have q1 : Pl 6 1 (iT form) := Pl.tup (ints_pl (n := 5) (fun w hw => by have := (hf w hw).2; omega) hl)
  have q2 : Pl 27 1 (iT (bars form)) := Pl.tup (ints_pl (n := 26) (fun w hw => by
    have := zprs_bd w ((bars_len form).2 w hw)
    omega) (bars_len form).1)
  have q3 : Pl 8 1 (.lst ((mayL.map fun w => (rsn form (.pt w)).isNone).map .bl)) := (Pl.lst (Pls.all (a := 1) (m := 0) fun w hw => by
    obtain ⟨b, _, rfl⟩ := List.mem_map.mp hw
    exact Pl.bl b 0)).le (by rw [List.length_map, List.length_map]; decide) (Nat.le_refl _)
  exact (Pl.lst (Pls.cons q1 (Pls.cons q2 (Pls.cons q3 (Pls.nil 1))))).le (by decide) (by decide)
theorem range_in {x : W} {n : Nat} (h : x ∈ rangeW 0 n) : ∃ i : Nat, i < n ∧ x = .int (i : Nat) := by
  rw [range0] at h
  obtain ⟨i, hi, rfl⟩ := List.mem_map.mp h
  exact ⟨i, List.mem_range.mp hi, rfl⟩
theorem bi_allT (n : List W) (G : Hh) : evBi .all [.lst (n.map fun _ => .bl true)] G = some (.bl true) := by
  simp only [evBi, ev1, onL, bls_true, Option.map]
  have : (n.map fun _ => true).all id = true := by simp
  rw [this]
theorem rsn0_s {form : List Int} {d : Deed} {s : Str} (e : rsn0 form d = some s) : decide (s = Str.ofString "") = false := by
  cases d with
  | tk i =>
    simp only [rsn0] at e
    split at e
    · cases e; decide
    · split at e
      · cases e; decide
      · exact absurd e (by simp)
  | tn i w =>
    simp only [rsn0] at e
    split at e
    · cases e; decide
    · split at e
      · cases e; decide
      · exact absurd e (by simp)
  | pt w =>
    simp only [rsn0] at e
    split at e
    · cases e; decide
    · exact absurd e (by simp)
theorem rsn_s {form : List Int} {d : Deed} {s : Str} (e : rsn form d = some s) : decide (s = Str.ofString "") = false := by
  unfold rsn at e
  cases h : rsn0 form d with
  | some t =>
    rw [h] at e
    cases e
    exact rsn0_s h
  | none =>
    rw [h] at e
    simp only at e
    by_cases c1 : isTk d = true
    · rw [if_pos c1] at e
      exact absurd e (by simp)
    · rw [if_neg c1] at e
      by_cases c2 : nought (after form d) = true
      · rw [if_pos c2] at e
        cases e
        decide
      · rw [if_neg c2] at e
        exact absurd e (by simp)
theorem rsn_nought {form : List Int} {d : Deed} (hf : Dw 99 form) (hl : form.length ≤ 4) (hn : nought form = false) (e : rsn form d = none) : nought (after form d) = false := by
  unfold rsn at e
  cases h : rsn0 form d with
  | some t =>
    rw [h] at e
    exact absurd e (by simp)
  | none =>
    rw [h] at e
    simp only at e
    by_cases c1 : isTk d = true
    · cases d with
      | tk i =>
        simp only [rsn0] at h
        split at h
        · exact absurd h (by simp)
        · rename_i c
          have hi : i < form.length := by
            have : ¬ ((form.length : Nat) : Int) ≤ ((i : Nat) : Int) := by simpa using c
            omega
          have hform : form.take i ++ form[i] :: form.drop (i + 1) = form := by rw [List.getElem_cons_drop, List.take_append_drop]
          cases hq : nought (after form (.tk i)) with
          | false => rfl
          | true =>
            have := nought_mid (w := form[i]) (A := form.take i) (B := form.drop (i + 1)) (fun x hx => by
              rw [hform] at hx
              exact smo_small x (hf x hx).1 (hf x hx).2) (by simp; omega) hq
            rw [hform, hn] at this
            exact absurd this (by simp)
      | tn i w => exact absurd c1 (by simp [isTk])
      | pt w => exact absurd c1 (by simp [isTk])
    · rw [if_neg c1] at e
      by_cases c2 : nought (after form d) = true
      · rw [if_pos c2] at e
        exact absurd e (by simp)
      · simpa using c2
theorem c_eqT0 (a : List Int) (G : Hh) : evCmp .eq (.tup (a.map .int)) (.tup []) G = some a.isEmpty := by
  have h := c_eqT a [] G
  rw [List.map_nil] at h
  rw [h]
  cases a <;> rfl
end PI
end

section
set_option autoImplicit false
set_option maxHeartbeats 4000000
/-! S11: a law that asks its turns. -/
namespace PI
open PySem (Str PyData)
section
variable {I : Ix} {L : Lib} {fs : List Fn}
theorem all_turns {c0 c1 : Int} [H_lawE_pool I L fs c0 c1] (hc : -1000000 ≤ c1 ∧ c1 ≤ 1000000) {R : Nat} {a b : Int} (hab : 0 ≤ a ∧ a ≤ 1000 ∧ b ≤ 1000) (ns : List Int) (hn : ns.length ≤ 63) (k : Nat) (hk : 1 ≤ k)
    (hr : ∀ (G : Hh) (n : Nat), PoolAt G n → ∃ G', run L fs k R [.ref n] G = .ok (.bl true) G') (G0 : Hh) :
    ∃ G', exSs L (run L fs k) (.cons (.ret (.bi .all (.cons (.lc [1] (.nm 1) (.r1 (.bi .max2 (.cons (.int a) (.cons (.bi .min2 (.cons (.bi .len (.cons (.v 0) .nil)) (.cons (.int b) .nil))) .nil)))) .yes (.call R (.cons (.call I.lawE_pool (.cons (.v 0) (.cons (.v 1) .nil)) []) .nil) [])) .nil))) .nil) [some (.lst (ns.map .int)), none] G0 = .rt (.bl true) G' := by
  have hb : ∀ j : Int, ∃ t : Int, t = j := fun j => ⟨j, rfl⟩
  obtain ⟨m, hm⟩ := hb (if b < ((ns.length : Nat) : Int) then b else ((ns.length : Nat) : Int))
  obtain ⟨t, ht⟩ := hb (if m > a then m else a)
  have t1 : t ≤ 1000000 ∧ -1000000 ≤ t := by split at hm <;> split at ht <;> omega
  obtain ⟨G', e⟩ := lc_h (xs := rangeW 0 t.toNat) (step := lcStep [1] (.nm 1) (evT L (run L fs k) .yes) (evE L (run L fs k) (.call R (.cons (.call I.lawE_pool (.cons (.v 0) (.cons (.v 1) .nil)) []) .nil) [])) [some (.lst (ns.map .int)), none]) (fun x hx G => by
    obtain ⟨i, hi, rfl⟩ := range_in hx
    obtain ⟨a, b, c, r1⟩ := e_pool (I := I) (L := L) (fs := fs) (c0 := c0) (c1 := c1) ns i k G hk hn hc
    obtain ⟨G', r2⟩ := hr (G ++ [.lst [.int a, .int b, .int c]]) G.length ⟨a, b, c, by simp⟩
    refine ⟨G', ?_⟩
    simp (disch := first | assumption | omega) only [List.map, List.map_cons, List.map_nil, Nat.reduceSub, List.replicate, List.cons_append, List.nil_append, List.append_nil, xs_cons, xs_nil, x_ret, x_asg, x_par, x_unp, x_drop, x_cond, x_loop, x_wh, x_raise1, x_setL, x_setF, x_app, x_try, e_fld, e_meth, e_lstT, g_nm, g_nil, IG.len, e_non, e_bl, e_int, e_str, e_v, e_g, e_op, e_neg, e_cmp, e_chain, e_and, e_or, e_not, e_ife, e_tup, e_lstF, e_ix, e_sl, e_call, e_bi, e_lc, e_isT, e_inG, e_ixG, es_nil, es_cons, es_star, o_no, o_yes, t_yes, t_and, t_or, t_not, t_val, t_tru, i_seq, i_r1, i_r2, i_enum, getS0, getSs, ofO_s, bindOk, bindEx, thnOk, thnEx, sthnNx, sthnRt, sthnEx, noexOk, endK_rt, endK_nx, endK_ex, c_eq_i, c_ne_i, c_eq_s, c_ne_s, c_lt, c_le, c_gt, c_ge, c_isN, c_notN, o_add, o_sub, o_mul, o_mod, o_div, o_addL, o_addT, tru_bl, tru_i, e_callK, e_callV, e_dct, e_mk, x_par3, x_setD, x_raise0, bi_lenT, bi_lenL, bi_min, bi_min2, bi_max2, bi_abs, bi_int, bi_intb, bi_tupL, bi_tupT, bi_lstT, bi_lstL, sl_L, sl_T, isNon, Option.map, List.set, and_self, if_true, if_false, Bool.false_eq_true, Bool.not_true, Bool.not_false, List.length, List.length_cons, List.length_nil, eq_self, Nat.zero_add, Nat.reduceAdd, Nat.reduceLeDiff, Option.bind_some, Option.isSome_some, decide_true, decide_false, List.length_map, seqOf, lcStep, bindTg, wipeR, r1, r2]) G0
  refine ⟨G', ?_⟩
  have hl : (rangeW 0 t.toNat).length ≤ 1000000 := by rw [rangeW_len]; omega
  simp (disch := first | assumption | omega) only [List.map, List.map_cons, List.map_nil, Nat.reduceSub, List.replicate, List.cons_append, List.nil_append, List.append_nil, xs_cons, xs_nil, x_ret, x_asg, x_par, x_unp, x_drop, x_cond, x_loop, x_wh, x_raise1, x_setL, x_setF, x_app, x_try, e_fld, e_meth, e_lstT, g_nm, g_nil, IG.len, e_non, e_bl, e_int, e_str, e_v, e_g, e_op, e_neg, e_cmp, e_chain, e_and, e_or, e_not, e_ife, e_tup, e_lstF, e_ix, e_sl, e_call, e_bi, e_lc, e_isT, e_inG, e_ixG, es_nil, es_cons, es_star, o_no, o_yes, t_yes, t_and, t_or, t_not, t_val, t_tru, i_seq, i_r1, i_r2, i_enum, getS0, getSs, ofO_s, bindOk, bindEx, thnOk, thnEx, sthnNx, sthnRt, sthnEx, noexOk, endK_rt, endK_nx, endK_ex, c_eq_i, c_ne_i, c_eq_s, c_ne_s, c_lt, c_le, c_gt, c_ge, c_isN, c_notN, o_add, o_sub, o_mul, o_mod, o_div, o_addL, o_addT, tru_bl, tru_i, e_callK, e_callV, e_dct, e_mk, x_par3, x_setD, x_raise0, bi_lenT, bi_lenL, bi_min, bi_min2, bi_max2, bi_abs, bi_int, bi_intb, bi_tupL, bi_tupT, bi_lstT, bi_lstL, sl_L, sl_T, isNon, Option.map, List.set, and_self, if_true, if_false, Bool.false_eq_true, Bool.not_true, Bool.not_false, List.length, List.length_cons, List.length_nil, eq_self, Nat.zero_add, Nat.reduceAdd, Nat.reduceLeDiff, Option.bind_some, Option.isSome_some, decide_true, decide_false, List.length_map, seqOf, ← hm, ← ht, t1, hl, e, bi_allT]
end
end PI
end

section
set_option autoImplicit false
namespace PI
open PySem (Str PyData)
namespace Law
def I0 : Ix := fun n => (([(77, 0), (76, 1), (2, 2), (5, 3), (3, 4), (4, 5), (73, 6), (72, 7), (61, 8), (63, 9), (62, 10), (71, 11), (64, 12), (65, 13), (69, 14), (68, 15), (66, 16), (67, 17), (70, 18), (44, 19), (43, 20), (41, 21), (16, 22), (8, 23), (6, 24), (14, 25), (12, 26), (11, 27), (10, 28), (15, 29), (39, 30), (22, 31), (36, 32), (26, 33), (24, 34), (25, 35), (27, 36), (28, 37), (35, 38), (30, 39), (29, 40), (34, 41), (33, 42), (31, 43), (32, 44), (37, 45), (54, 46), (47, 47), (46, 48), (52, 49), (51, 50), (50, 51), (75, 52), (74, 53), (60, 54), (13, 0), (17, 1), (18, 2), (19, 3), (20, 4), (21, 5), (23, 6), (38, 7), (49, 8), (42, 0), (48, 1), (53, 2), (1, 0), (7, 0), (57, 0), (45, 1), (9, 2), (40, 3)] : List (Nat × Nat)).lookup n).getD 9999
def _root_.PI.Ix.law_k80 (I : Ix) : Nat := I 77
def b_law_k80 (I : Ix) : ISs := (.cons (.ret (.bi .all (.cons (.lc [1] (.nm 1) (.r1 (.bi .max2 (.cons (.int 2) (.cons (.bi .min2 (.cons (.bi .len (.cons (.v 0) .nil)) (.cons (.int 3) .nil))) .nil)))) .yes (.call I.lawE_right_1 (.cons (.call I.lawE_pool (.cons (.v 0) (.cons (.v 1) .nil)) []) .nil) [])) .nil))) .nil)
def f_law_k80 (I : Ix) : Fn := ⟨1, 2, true, b_law_k80 I⟩
def lib : Lib where
  gs := [.int 99, .int 4, .str (Str.ofString "full"), .str (Str.ofString "none"), .str (Str.ofString "one"), .str (Str.ofString "same"), .tup [.int 2, .int 3, .int 5, .int 7, .int 11, .int 13, .int 17, .int 19, .int 23, .int 29, .int 31, .int 37, .int 41, .int 43, .int 47, .int 53, .int 59, .int 61, .int 67, .int 71, .int 73, .int 79, .int 83, .int 89, .int 97], .str (Str.ofString "nought"), .tup [.int 0, .int 2, .int 3, .int 5, .int 7, .int 11, .int 13, .int 17, .int 19, .int 23, .int 29, .int 31, .int 37, .int 41, .int 43, .int 47, .int 53, .int 59, .int 61, .int 67, .int 71, .int 73, .int 79, .int 83, .int 89, .int 97]]
  ms := [(0, 21), (0, 47), (0, 49)]
  inits := [(2, 3)]
  dicts := [[((Str.ofString "put"), 2), ((Str.ofString "take"), 2), ((Str.ofString "turn"), 3)]]
  subs := [[0], [1, 0], [2, 0], [3, 0]]
def fs : List Fn := [f_law_k80 I0, f_lawE_right_1 I0, f_desks_Desk_init I0, f_lawE_deed I0, f_lawE_draw I0, f_lawE_weight I0, f_lawE_reason I0, f_lawE_gives_nought I0, f_lawE_core I0, f_lawE_places I0, f_lawE_primes I0, f_lawE_nought_at I0, f_lawE_size I0, f_lawE_part I0, f_lawE_form_sign I0, f_lawE_sign I0, f_lawE_out I0, f_lawE_rest_sign I0, f_lawE_is_square I0, f_lawE_after I0, f_lawE_barred I0, f_desks_Desk_do I0, f_desks_check_deed I0, f_desks_has_form I0, f_values_is_string I0, f_signs_is_weight I0, f_signs_is_nonzero I0, f_values_is_between I0, f_values_is_whole I0, f_values_is_number I0, f_desks_reason_against I0, f_desks_reason_by_itself I0, f_noughts_gives_nought_by I0, f_signs_part_by I0, f_signs_is_odd I0, f_signs_parted_by I0, f_signs_size_by I0, f_signs_places_by I0, f_noughts_gives_with I0, f_signs_is_square_by I0, f_signs_rest_sign I0, f_signs_form_sign_by I0, f_signs_sign_by I0, f_signs_sign_at_two I0, f_signs_sign_at_odd I0, f_desks_form_behind I0, f_lawE_told I0, f_desks_Desk_may_put I0, f_signs_check_weight I0, f_desks_Desk_bars I0, f_noughts_bars_by I0, f_noughts_looked_at I0, f_lawE_due I0, f_lawE_bars I0, f_lawE_pool I0 60029 5011]
def dat : Dat where
  L := lib
  fs := fs
  gn := [(Str.ofString "law"), (Str.ofString "_law_right"), "", (Str.ofString "_law_deed"), (Str.ofString "_law_draw"), (Str.ofString "_law_weight"), (Str.ofString "_law_reason"), (Str.ofString "_law_gives_nought"), (Str.ofString "_law_core"), (Str.ofString "_law_places"), (Str.ofString "_law_primes"), (Str.ofString "_law_nought_at"), (Str.ofString "_law_size"), (Str.ofString "_law_part"), (Str.ofString "_law_form_sign"), (Str.ofString "_law_sign"), (Str.ofString "_law_out"), (Str.ofString "_law_rest_sign"), (Str.ofString "_law_is_square"), (Str.ofString "_law_after"), (Str.ofString "_law_barred"), "", (Str.ofString "check_deed"), (Str.ofString "has_form"), (Str.ofString "is_string"), (Str.ofString "is_weight"), (Str.ofString "is_nonzero"), (Str.ofString "is_between"), (Str.ofString "is_whole"), (Str.ofString "is_number"), (Str.ofString "reason_against"), (Str.ofString "reason_by_itself"), (Str.ofString "gives_nought_by"), (Str.ofString "part_by"), (Str.ofString "is_odd"), (Str.ofString "parted_by"), (Str.ofString "size_by"), (Str.ofString "places_by"), (Str.ofString "gives_with"), (Str.ofString "is_square_by"), (Str.ofString "rest_sign"), (Str.ofString "form_sign_by"), (Str.ofString "sign_by"), (Str.ofString "sign_at_two"), (Str.ofString "sign_at_odd"), (Str.ofString "form_behind"), (Str.ofString "_law_told"), "", (Str.ofString "check_weight"), "", (Str.ofString "bars_by"), (Str.ofString "looked_at"), (Str.ofString "_law_due"), (Str.ofString "_law_bars"), (Str.ofString "_law_pool")]
  pn := [[(Str.ofString "script")], [(Str.ofString "pool")], [(Str.ofString "self")], [(Str.ofString "pool"), (Str.ofString "form")], [(Str.ofString "pool"), (Str.ofString "many")], [(Str.ofString "pool"), (Str.ofString "most")], [(Str.ofString "form"), (Str.ofString "deed")], [(Str.ofString "form")], [(Str.ofString "number")], [(Str.ofString "form")], [], [(Str.ofString "form"), (Str.ofString "place")], [(Str.ofString "form")], [(Str.ofString "form")], [(Str.ofString "form"), (Str.ofString "place")], [(Str.ofString "one"), (Str.ofString "other"), (Str.ofString "place")], [(Str.ofString "number"), (Str.ofString "prime")], [(Str.ofString "number"), (Str.ofString "prime")], [(Str.ofString "number"), (Str.ofString "place")], [(Str.ofString "form"), (Str.ofString "deed")], [(Str.ofString "desk"), (Str.ofString "deed")], [(Str.ofString "self"), (Str.ofString "deed")], [(Str.ofString "value")], [(Str.ofString "value")], [(Str.ofString "value")], [(Str.ofString "value")], [(Str.ofString "value"), (Str.ofString "most")], [(Str.ofString "value"), (Str.ofString "least"), (Str.ofString "most")], [(Str.ofString "value")], [(Str.ofString "value"), (Str.ofString "low"), (Str.ofString "high")], [(Str.ofString "form"), (Str.ofString "deed")], [(Str.ofString "form"), (Str.ofString "deed")], [(Str.ofString "form")], [(Str.ofString "form")], [(Str.ofString "number")], [(Str.ofString "number"), (Str.ofString "prime")], [(Str.ofString "form")], [(Str.ofString "form")], [(Str.ofString "form"), (Str.ofString "part"), (Str.ofString "place")], [(Str.ofString "number"), (Str.ofString "place")], [(Str.ofString "number"), (Str.ofString "prime")], [(Str.ofString "form"), (Str.ofString "place")], [(Str.ofString "one"), (Str.ofString "other"), (Str.ofString "place")], [(Str.ofString "one"), (Str.ofString "other")], [(Str.ofString "one"), (Str.ofString "other"), (Str.ofString "prime")], [(Str.ofString "form"), (Str.ofString "deed")], [(Str.ofString "desk")], [(Str.ofString "self"), (Str.ofString "weight")], [(Str.ofString "value")], [(Str.ofString "self")], [(Str.ofString "form")], [(Str.ofString "form")], [(Str.ofString "form")], [(Str.ofString "form")], [(Str.ofString "script"), (Str.ofString "turn")]]
  dfs := [[[]], [[]], [[]], [[]], [[]], [[]], [[]], [[]], [[]], [[]], [[]], [[]], [[]], [[]], [[]], [[]], [[]], [[]], [[]], [[]], [[]], [[]], [[]], [[]], [[]], [[]], [[]], [[]], [[]], [[], [.int 0, .non]], [[]], [[]], [[]], [[]], [[]], [[]], [[]], [[]], [[]], [[]], [[]], [[]], [[]], [[]], [[]], [[]], [[]], [[]], [[]], [[]], [[]], [[]], [[]], [[]], [[]]]
  gv := [(Str.ofString "MOST_WEIGHT"), (Str.ofString "MOST_HERE"), (Str.ofString "FULL"), (Str.ofString "NONE"), (Str.ofString "ONE"), (Str.ofString "SAME"), (Str.ofString "PRIMES"), (Str.ofString "NOUGHT"), (Str.ofString "PLACES")]
  fl := [[(Str.ofString "form"), (Str.ofString "deeds"), (Str.ofString "past")]]
  cn := [(Str.ofString "Desk")]
  xn := [(Str.ofString "FormError"), (Str.ofString "InvalidNumber"), (Str.ofString "InvalidDeed"), (Str.ofString "Barred")]
  xf := [(Str.ofString ""), (Str.ofString "given"), (Str.ofString "index"), (Str.ofString "reason")]
  mn := [(Str.ofString "do"), (Str.ofString "may_put"), (Str.ofString "bars")]
  dn := [(Str.ofString "SIZES")]
  bs := [(Str.ofString "abs"), (Str.ofString "all"), (Str.ofString "any"), (Str.ofString "bool"), (Str.ofString "divmod"), (Str.ofString "enumerate"), (Str.ofString "int"), (Str.ofString "isinstance"), (Str.ofString "len"), (Str.ofString "list"), (Str.ofString "max"), (Str.ofString "min"), (Str.ofString "range"), (Str.ofString "repr"), (Str.ofString "sorted"), (Str.ofString "str"), (Str.ofString "sum"), (Str.ofString "tuple")]
  md := [(2, 0, (Str.ofString "__init__")), (21, 0, (Str.ofString "do")), (47, 0, (Str.ofString "may_put")), (49, 0, (Str.ofString "bars"))]
  nn := [[(Str.ofString "script"), (Str.ofString "turn")], [(Str.ofString "pool"), (Str.ofString "desk"), (Str.ofString "form"), (Str.ofString "log"), (Str.ofString "turn"), (Str.ofString "deed"), (Str.ofString "reason")], [(Str.ofString "self")], [(Str.ofString "pool"), (Str.ofString "form"), (Str.ofString "way"), (Str.ofString "own")], [(Str.ofString "pool"), (Str.ofString "many"), (Str.ofString "figure"), (Str.ofString "held")], [(Str.ofString "pool"), (Str.ofString "most")], [(Str.ofString "form"), (Str.ofString "deed")], [(Str.ofString "form"), (Str.ofString "place")], [(Str.ofString "number"), (Str.ofString "found"), (Str.ofString "by")], [(Str.ofString "form"), (Str.ofString "found"), (Str.ofString "prime"), (Str.ofString "own")], [(Str.ofString "found")], [(Str.ofString "form"), (Str.ofString "place"), (Str.ofString "part_here"), (Str.ofString "own")], [(Str.ofString "form"), (Str.ofString "own")], [(Str.ofString "form"), (Str.ofString "found"), (Str.ofString "own")], [(Str.ofString "form"), (Str.ofString "place"), (Str.ofString "found"), (Str.ofString "k"), (Str.ofString "j")], [(Str.ofString "one"), (Str.ofString "other"), (Str.ofString "place"), (Str.ofString "first"), (Str.ofString "many"), (Str.ofString "second"), (Str.ofString "more"), (Str.ofString "odd"), (Str.ofString "found")], [(Str.ofString "number"), (Str.ofString "prime"), (Str.ofString "many")], [(Str.ofString "number"), (Str.ofString "prime"), (Str.ofString "own")], [(Str.ofString "number"), (Str.ofString "place"), (Str.ofString "left"), (Str.ofString "many")], [(Str.ofString "form"), (Str.ofString "deed"), (Str.ofString "more")], [(Str.ofString "desk"), (Str.ofString "deed"), (Str.ofString "e")], [(Str.ofString "self"), (Str.ofString "deed"), (Str.ofString "reason")], [(Str.ofString "value"), (Str.ofString "is_right")], [(Str.ofString "value")], [(Str.ofString "value")], [(Str.ofString "value")], [(Str.ofString "value"), (Str.ofString "most")], [(Str.ofString "value"), (Str.ofString "least"), (Str.ofString "most")], [(Str.ofString "value")], [(Str.ofString "value"), (Str.ofString "low"), (Str.ofString "high")], [(Str.ofString "form"), (Str.ofString "deed"), (Str.ofString "reason")], [(Str.ofString "form"), (Str.ofString "deed")], [(Str.ofString "form"), (Str.ofString "part"), (Str.ofString "place")], [(Str.ofString "form"), (Str.ofString "found"), (Str.ofString "prime"), (Str.ofString "weight")], [(Str.ofString "number")], [(Str.ofString "number"), (Str.ofString "prime"), (Str.ofString "times")], [(Str.ofString "form"), (Str.ofString "weight"), (Str.ofString "above")], [(Str.ofString "form"), (Str.ofString "place"), (Str.ofString "weight"), (Str.ofString "own")], [(Str.ofString "form"), (Str.ofString "part"), (Str.ofString "place")], [(Str.ofString "number"), (Str.ofString "place"), (Str.ofString "left"), (Str.ofString "times")], [(Str.ofString "number"), (Str.ofString "prime"), (Str.ofString "each")], [(Str.ofString "form"), (Str.ofString "place"), (Str.ofString "found"), (Str.ofString "at"), (Str.ofString "weight"), (Str.ofString "other")], [(Str.ofString "one"), (Str.ofString "other"), (Str.ofString "place")], [(Str.ofString "one"), (Str.ofString "other"), (Str.ofString "left"), (Str.ofString "times"), (Str.ofString "rest"), (Str.ofString "more"), (Str.ofString "told")], [(Str.ofString "one"), (Str.ofString "other"), (Str.ofString "prime"), (Str.ofString "left"), (Str.ofString "times"), (Str.ofString "rest"), (Str.ofString "more"), (Str.ofString "found")], [(Str.ofString "form"), (Str.ofString "deed"), (Str.ofString "middle")], [(Str.ofString "desk"), (Str.ofString "weight")], [(Str.ofString "self"), (Str.ofString "weight")], [(Str.ofString "value")], [(Str.ofString "self")], [(Str.ofString "form"), (Str.ofString "part"), (Str.ofString "place")], [(Str.ofString "form")], [(Str.ofString "form"), (Str.ofString "weight"), (Str.ofString "let")], [(Str.ofString "form"), (Str.ofString "some"), (Str.ofString "place")], [(Str.ofString "script"), (Str.ofString "turn"), (Str.ofString "own"), (Str.ofString "stirred"), (Str.ofString "cell")]]
  lms := []
  mks := []
instance : H_g_signs_MOST_WEIGHT I0 lib := ⟨rfl⟩
instance : H_g_desks_MOST_HERE I0 lib := ⟨rfl⟩
instance : H_g_desks_FULL I0 lib := ⟨rfl⟩
instance : H_g_desks_NONE I0 lib := ⟨rfl⟩
instance : H_g_desks_ONE I0 lib := ⟨rfl⟩
instance : H_g_desks_SAME I0 lib := ⟨rfl⟩
instance : H_g_signs_PRIMES I0 lib := ⟨rfl⟩
instance : H_g_desks_NOUGHT I0 lib := ⟨rfl⟩
instance : H_g_signs_PLACES I0 lib := ⟨rfl⟩
instance : H_m_desks_Desk_do I0 lib := ⟨rfl⟩
instance : H_m_desks_Desk_may_put I0 lib := ⟨rfl⟩
instance : H_m_desks_Desk_bars I0 lib := ⟨rfl⟩
instance : H_c_desks_Desk I0 lib := ⟨rfl⟩
instance : H_d_desks_SIZES I0 lib := ⟨rfl⟩
instance : H_x_errors_FormError I0 lib := ⟨rfl⟩
instance : H_x_errors_InvalidNumber I0 lib := ⟨rfl⟩
instance : H_x_errors_InvalidDeed I0 lib := ⟨rfl⟩
instance : H_x_errors_Barred I0 lib := ⟨rfl⟩
instance : H_desks_Desk_init I0 lib fs := {at_desks_Desk_init := rfl}
instance : H_lawE_draw I0 lib fs := {at_lawE_draw := rfl}
instance : H_lawE_weight I0 lib fs := {at_lawE_weight := rfl}
instance : H_lawE_deed I0 lib fs := {at_lawE_deed := rfl}
instance : H_lawE_core I0 lib fs := {at_lawE_core := rfl}
instance : H_lawE_primes I0 lib fs := {at_lawE_primes := rfl}
instance : H_lawE_places I0 lib fs := {at_lawE_places := rfl}
instance : H_lawE_size I0 lib fs := {at_lawE_size := rfl}
instance : H_lawE_part I0 lib fs := {at_lawE_part := rfl}
instance : H_lawE_out I0 lib fs := {at_lawE_out := rfl}
instance : H_lawE_rest_sign I0 lib fs := {at_lawE_rest_sign := rfl}
instance : H_lawE_sign I0 lib fs := {at_lawE_sign := rfl}
instance : H_lawE_form_sign I0 lib fs := {at_lawE_form_sign := rfl}
instance : H_lawE_is_square I0 lib fs := {at_lawE_is_square := rfl}
instance : H_lawE_nought_at I0 lib fs := {at_lawE_nought_at := rfl}
instance : H_lawE_gives_nought I0 lib fs := {at_lawE_gives_nought := rfl}
instance : H_lawE_after I0 lib fs := {at_lawE_after := rfl}
instance : H_lawE_reason I0 lib fs := {at_lawE_reason := rfl}
instance : H_values_is_string I0 lib fs := {at_values_is_string := rfl}
instance : H_desks_has_form I0 lib fs := {at_desks_has_form := rfl}
instance : H_values_is_whole I0 lib fs := {at_values_is_whole := rfl}
instance : H_values_is_between I0 lib fs := {at_values_is_between := rfl}
instance : H_signs_is_nonzero I0 lib fs := {at_signs_is_nonzero := rfl}
instance : H_signs_is_weight I0 lib fs := {at_signs_is_weight := rfl}
instance : H_values_is_number I0 lib fs := {at_values_is_number := rfl}
instance : H_desks_check_deed I0 lib fs := {at_desks_check_deed := rfl}
instance : H_desks_reason_by_itself I0 lib fs := {at_desks_reason_by_itself := rfl}
instance : H_signs_is_odd I0 lib fs := {at_signs_is_odd := rfl}
instance : H_signs_parted_by I0 lib fs := {at_signs_parted_by := rfl}
instance : H_signs_part_by I0 lib fs := {at_signs_part_by := rfl}
instance : H_signs_size_by I0 lib fs := {at_signs_size_by := rfl}
instance : H_signs_places_by I0 lib fs := {at_signs_places_by := rfl}
instance : H_signs_rest_sign I0 lib fs := {at_signs_rest_sign := rfl}
instance : H_signs_is_square_by I0 lib fs := {at_signs_is_square_by := rfl}
instance : H_signs_sign_at_two I0 lib fs := {at_signs_sign_at_two := rfl}
instance : H_signs_sign_at_odd I0 lib fs := {at_signs_sign_at_odd := rfl}
instance : H_signs_sign_by I0 lib fs := {at_signs_sign_by := rfl}
instance : H_signs_form_sign_by I0 lib fs := {at_signs_form_sign_by := rfl}
instance : H_noughts_gives_with I0 lib fs := {at_noughts_gives_with := rfl}
instance : H_noughts_gives_nought_by I0 lib fs := {at_noughts_gives_nought_by := rfl}
instance : H_desks_form_behind I0 lib fs := {at_desks_form_behind := rfl}
instance : H_desks_reason_against I0 lib fs := {at_desks_reason_against := rfl}
instance : H_desks_Desk_do I0 lib fs := {at_desks_Desk_do := rfl}
instance : H_lawE_barred I0 lib fs := {at_lawE_barred := rfl}
instance : H_signs_check_weight I0 lib fs := {at_signs_check_weight := rfl}
instance : H_desks_Desk_may_put I0 lib fs := {at_desks_Desk_may_put := rfl}
instance : H_noughts_looked_at I0 lib fs := {at_noughts_looked_at := rfl}
instance : H_noughts_bars_by I0 lib fs := {at_noughts_bars_by := rfl}
instance : H_desks_Desk_bars I0 lib fs := {at_desks_Desk_bars := rfl}
instance : H_lawE_told I0 lib fs := {at_lawE_told := rfl}
instance : H_lawE_bars I0 lib fs := {at_lawE_bars := rfl}
instance : H_lawE_due I0 lib fs := {at_lawE_due := rfl}
instance : H_lawE_right_1 I0 lib fs := {at_lawE_right_1 := rfl}
instance : H_lawE_pool I0 lib fs 60029 5011 := {at_lawE_pool := rfl}
theorem at_law_k80 : fs[I0.law_k80]? = some (f_law_k80 I0) := rfl
end Law
end PI
end

section
set_option autoImplicit false
set_option maxHeartbeats 4000000
/-! W80: law_k80's own walk. -/
namespace PI
open PySem (Str PyData)
open NF
section
variable {I : Ix} {L : Lib} {fs : List Fn}
def RI80 (I : Ix) (n nd np : Nat) (i : Nat) (ρ : Rho) (G : Hh) : Prop := ∃ (form : List Int) (deeds : List Deed) (past : List (List Int)) (o4 o5 o6 : Option W), ρ = [some (.ref n), some (.ref nd), some (iT form), some (.tup (deeds.map Deed.W)), o4, o5, o6] ∧ PoolAt G n ∧ Dk I G nd np form deeds past ∧ Dw 15 form ∧ 1 ≤ form.length ∧ form.length ≤ 4 ∧ nought form = false ∧ (∀ d ∈ deeds, d.ok 99) ∧ deeds.length ≤ i ∧ past.length ≤ i
theorem tailS {nd np : Nat} [H_lawE_right_1 I L fs] {G : Hh} {form : List Int} {deeds : List Deed} {past : List (List Int)} (hD : Dk I G nd np form deeds past) (hf : Dw 15 form) (h1 : 1 ≤ form.length) (hl : form.length ≤ 4) (hn : nought form = false) (hok : ∀ d ∈ deeds, d.ok 99) (hdl : deeds.length ≤ 18) (k : Nat) (hk : 10 ≤ k) (o1 o4 o5 o6 : Option W) :
    exS L (run L fs k) (.cond (.or (.val (.cmp .ne (.bi .repr (.cons (.lst false (.cons (.call I.lawE_told (.cons (.v 1) .nil) []) (.cons (.fld (.v 1) I.c_desks_Desk 1) .nil))) .nil)) (.bi .repr (.cons (.lst false (.cons (.call I.lawE_due (.cons (.v 2) .nil) []) (.cons (.v 3) .nil))) .nil)))) (.val (.cmp .eq (.meth (.v 1) I.m_desks_Desk_bars .nil) (.tup .nil)))) (.cons (.ret (.bl false)) .nil) .nil) [o1, some (.ref nd), some (iT form), some (.tup (deeds.map Deed.W)), o4, o5, o6] G = .nx [o1, some (.ref nd), some (iT form), some (.tup (deeds.map Deed.W)), o4, o5, o6] G := by
  have r1 := e_told (I := I) (L := L) (fs := fs) hD (hf.mono (by decide)) (by omega) k (by omega)
  have r2 := e_due (I := I) (L := L) (fs := fs) form hf h1 hl k G (by omega)
  have r3 := d_Bars (I := I) (L := L) (fs := fs) hD (hf.mono (by decide)) (by omega) k (by omega)
  have i0 := hD.ins
  obtain ⟨s, hs⟩ := (Pl.lst (Pls.cons (told_pl (hf.mono (C := 99) (by decide)) (by omega)) (Pls.cons (deeds_pl hok) (Pls.nil 2)))).repr (by omega) (by decide)
  have hb : (bars form).isEmpty = false := by
    have := bars_ne (fun w hw => (hf w hw).1) h1 hl hn
    cases e : bars form with
    | nil => exact absurd e this
    | cons a r => rfl
  unfold F3 at i0
  simp (disch := first | assumption | omega) only [List.map, List.map_cons, List.map_nil, Nat.reduceSub, List.replicate, List.cons_append, List.nil_append, List.append_nil, xs_cons, xs_nil, x_ret, x_asg, x_par, x_unp, x_drop, x_cond, x_loop, x_wh, x_raise1, x_setL, x_setF, x_app, x_try, e_fld, e_meth, e_lstT, g_nm, g_nil, IG.len, e_non, e_bl, e_int, e_str, e_v, e_g, e_op, e_neg, e_cmp, e_chain, e_and, e_or, e_not, e_ife, e_tup, e_lstF, e_ix, e_sl, e_call, e_bi, e_lc, e_isT, e_inG, e_ixG, es_nil, es_cons, es_star, o_no, o_yes, t_yes, t_and, t_or, t_not, t_val, t_tru, i_seq, i_r1, i_r2, i_enum, getS0, getSs, ofO_s, bindOk, bindEx, thnOk, thnEx, sthnNx, sthnRt, sthnEx, noexOk, endK_rt, endK_nx, endK_ex, c_eq_i, c_ne_i, c_eq_s, c_ne_s, c_lt, c_le, c_gt, c_ge, c_isN, c_notN, o_add, o_sub, o_mul, o_mod, o_div, o_addL, o_addT, tru_bl, tru_i, e_callK, e_callV, e_dct, e_mk, x_par3, x_setD, x_raise0, bi_lenT, bi_lenL, bi_min, bi_min2, bi_max2, bi_abs, bi_int, bi_intb, bi_tupL, bi_tupT, bi_lstT, bi_lstL, sl_L, sl_T, isNon, Option.map, List.set, and_self, if_true, if_false, Bool.false_eq_true, Bool.not_true, Bool.not_false, List.length, List.length_cons, List.length_nil, eq_self, Nat.zero_add, Nat.reduceAdd, Nat.reduceLeDiff, Option.bind_some, Option.isSome_some, decide_true, decide_false, List.length_map, seqOf, r1, r2, i0, hs, A_m_desks_Desk_bars, r3, c_eqT0, hb]
theorem turn80 {n nd np : Nat} [H_lawE_right_1 I L fs] (n1 : n ≠ nd) (n2 : n ≠ np) (k : Nat) (hk : 10 ≤ k) (i : Nat) (x : W) (ρ : Rho) (G : Hh) (hi : i < 18) (hI : RI80 I n nd np i ρ G) : ∃ ρ' G', RI80 I n nd np (i + 1) ρ' G' ∧
    forStep (.nm 4) (exSs L (run L fs k) (.cons (.asg 5 (.call I.lawE_deed (.cons (.v 0) (.cons (.v 2) .nil)) [])) (.cons (.asg 6 (.call I.lawE_reason (.cons (.v 2) (.cons (.v 5) .nil)) [])) (.cons (.cond (.val (.cmp .ne (.call I.lawE_barred (.cons (.v 1) (.cons (.v 5) .nil)) []) (.v 6))) (.cons (.ret (.bl false)) .nil) .nil) (.cons (.cond (.val (.cmp .eq (.v 6) (.str (Str.ofString "")))) (.cons (.par 2 3 (.call I.lawE_after (.cons (.v 2) (.cons (.v 5) .nil)) []) (.op .add (.v 3) (.tup (.cons (.v 5) .nil)))) .nil) .nil) (.cons (.cond (.or (.val (.cmp .ne (.bi .repr (.cons (.lst false (.cons (.call I.lawE_told (.cons (.v 1) .nil) []) (.cons (.fld (.v 1) I.c_desks_Desk 1) .nil))) .nil)) (.bi .repr (.cons (.lst false (.cons (.call I.lawE_due (.cons (.v 2) .nil) []) (.cons (.v 3) .nil))) .nil)))) (.val (.cmp .eq (.meth (.v 1) I.m_desks_Desk_bars .nil) (.tup .nil)))) (.cons (.ret (.bl false)) .nil) .nil) .nil)))))) x ρ G = .nx ρ' G' := by
  obtain ⟨form, deeds, past, o4, o5, o6, rfl, hP, hD, hf, h1, hl, hno, hok, hdl, hpl⟩ := hI
  obtain ⟨d, G1, hd, _, _, st, e1⟩ := e_deed (I := I) (L := L) (fs := fs) hP h1 (by omega)
  have hP1 := st.pool hP
  have hD1 := hD.stir st n1 n2
  have hd9 := hd.mono (C := 99) (by decide)
  have hf9 := hf.mono (C := 99) (by decide)
  have r1 := e1 k (by omega)
  have r2 := fun G => e_reason (I := I) (L := L) (fs := fs) form d k G (by omega) hf h1 hl hd
  cases e : rsn form d with
  | some s =>
    rw [e] at r2
    unfold oE at r2
    have r3 := e_barred_no (I := I) (L := L) (fs := fs) hD1 hf9 (by omega) hd9 e k (by omega)
    have hs : decide (s = Str.ofString "") = false := rsn_s e
    have t := tailS (L := L) (fs := fs) hD1 hf h1 hl hno hok (by omega) k hk (some (.ref n)) (some x) (some d.W) (some (.str s))
    refine ⟨_, G1, ⟨form, deeds, past, some x, some d.W, some (.str s), rfl, hP1, hD1, hf, h1, hl, hno, hok, by omega, by omega⟩, ?_⟩
    generalize hc : (IS.cond (.or (.val (.cmp .ne (.bi .repr (.cons (.lst false (.cons (.call I.lawE_told (.cons (.v 1) .nil) []) (.cons (.fld (.v 1) I.c_desks_Desk 1) .nil))) .nil)) (.bi .repr (.cons (.lst false (.cons (.call I.lawE_due (.cons (.v 2) .nil) []) (.cons (.v 3) .nil))) .nil)))) (.val (.cmp .eq (.meth (.v 1) I.m_desks_Desk_bars .nil) (.tup .nil)))) (.cons (.ret (.bl false)) .nil) .nil) = cd at t ⊢
    simp (disch := first | assumption | omega) only [List.map, List.map_cons, List.map_nil, Nat.reduceSub, List.replicate, List.cons_append, List.nil_append, List.append_nil, xs_cons, xs_nil, x_ret, x_asg, x_par, x_unp, x_drop, x_cond, x_loop, x_wh, x_raise1, x_setL, x_setF, x_app, x_try, e_fld, e_meth, e_lstT, g_nm, g_nil, IG.len, e_non, e_bl, e_int, e_str, e_v, e_g, e_op, e_neg, e_cmp, e_chain, e_and, e_or, e_not, e_ife, e_tup, e_lstF, e_ix, e_sl, e_call, e_bi, e_lc, e_isT, e_inG, e_ixG, es_nil, es_cons, es_star, o_no, o_yes, t_yes, t_and, t_or, t_not, t_val, t_tru, i_seq, i_r1, i_r2, i_enum, getS0, getSs, ofO_s, bindOk, bindEx, thnOk, thnEx, sthnNx, sthnRt, sthnEx, noexOk, endK_rt, endK_nx, endK_ex, c_eq_i, c_ne_i, c_eq_s, c_ne_s, c_lt, c_le, c_gt, c_ge, c_isN, c_notN, o_add, o_sub, o_mul, o_mod, o_div, o_addL, o_addT, tru_bl, tru_i, e_callK, e_callV, e_dct, e_mk, x_par3, x_setD, x_raise0, bi_lenT, bi_lenL, bi_min, bi_min2, bi_max2, bi_abs, bi_int, bi_intb, bi_tupL, bi_tupT, bi_lstT, bi_lstL, sl_L, sl_T, isNon, Option.map, List.set, and_self, if_true, if_false, Bool.false_eq_true, Bool.not_true, Bool.not_false, List.length, List.length_cons, List.length_nil, eq_self, Nat.zero_add, Nat.reduceAdd, Nat.reduceLeDiff, Option.bind_some, Option.isSome_some, decide_true, decide_false, List.length_map, seqOf, forStep, bindTg, r1, r2, r3, hs, t]
  | none =>
    rw [e] at r2
    unfold oE at r2
    obtain ⟨G2, hD2, _, ho, r3⟩ := e_barred_ok (I := I) (L := L) (fs := fs) hD1 hf9 (by omega) (by omega) (by omega) hd9 e
    have r3 := r3 k (by omega)
    have r4 := fun G => e_after (I := I) (L := L) (fs := fs) form d k G (by omega) (by omega)
    obtain ⟨l1, l2⟩ := rsn_len h1 hl e
    have hf2 := after_dw hf hd
    have hno2 := rsn_nought hf9 hl hno e
    have hok2 : ∀ y ∈ deeds ++ [d], y.ok 99 := fun y hy => by
      rcases List.mem_append.mp hy with h | h
      · exact hok y h
      · have : y = d := by simpa using h
        exact this ▸ hd9
    have hP2 : PoolAt G2 n := by
      obtain ⟨a, b, c, hp⟩ := hP1
      exact ⟨a, b, c, by rw [ho n n1 n2]; exact hp⟩
    have ha : ∀ G, evOp .add (.tup (deeds.map Deed.W)) (.tup [d.W]) G = .ok (.tup ((deeds ++ [d]).map Deed.W)) G := fun G => by
      rw [o_addT _ _ _ (by simp; omega)]
      simp
    have t := tailS (L := L) (fs := fs) hD2 hf2 l1 l2 hno2 hok2 (by simp; omega) k hk (some (.ref n)) (some x) (some d.W) (some (.str (Str.ofString "")))
    refine ⟨_, G2, ⟨after form d, deeds ++ [d], past ++ [form], some x, some d.W, some (.str (Str.ofString "")), rfl, hP2, hD2, hf2, l1, l2, hno2, hok2, by simp; omega, by simp; omega⟩, ?_⟩
    generalize hc : (IS.cond (.or (.val (.cmp .ne (.bi .repr (.cons (.lst false (.cons (.call I.lawE_told (.cons (.v 1) .nil) []) (.cons (.fld (.v 1) I.c_desks_Desk 1) .nil))) .nil)) (.bi .repr (.cons (.lst false (.cons (.call I.lawE_due (.cons (.v 2) .nil) []) (.cons (.v 3) .nil))) .nil)))) (.val (.cmp .eq (.meth (.v 1) I.m_desks_Desk_bars .nil) (.tup .nil)))) (.cons (.ret (.bl false)) .nil) .nil) = cd at t ⊢
    simp (disch := first | assumption | omega) only [List.map, List.map_cons, List.map_nil, Nat.reduceSub, List.replicate, List.cons_append, List.nil_append, List.append_nil, xs_cons, xs_nil, x_ret, x_asg, x_par, x_unp, x_drop, x_cond, x_loop, x_wh, x_raise1, x_setL, x_setF, x_app, x_try, e_fld, e_meth, e_lstT, g_nm, g_nil, IG.len, e_non, e_bl, e_int, e_str, e_v, e_g, e_op, e_neg, e_cmp, e_chain, e_and, e_or, e_not, e_ife, e_tup, e_lstF, e_ix, e_sl, e_call, e_bi, e_lc, e_isT, e_inG, e_ixG, es_nil, es_cons, es_star, o_no, o_yes, t_yes, t_and, t_or, t_not, t_val, t_tru, i_seq, i_r1, i_r2, i_enum, getS0, getSs, ofO_s, bindOk, bindEx, thnOk, thnEx, sthnNx, sthnRt, sthnEx, noexOk, endK_rt, endK_nx, endK_ex, c_eq_i, c_ne_i, c_eq_s, c_ne_s, c_lt, c_le, c_gt, c_ge, c_isN, c_notN, o_add, o_sub, o_mul, o_mod, o_div, o_addL, o_addT, tru_bl, tru_i, e_callK, e_callV, e_dct, e_mk, x_par3, x_setD, x_raise0, bi_lenT, bi_lenL, bi_min, bi_min2, bi_max2, bi_abs, bi_int, bi_intb, bi_tupL, bi_tupT, bi_lstT, bi_lstL, sl_L, sl_T, isNon, Option.map, List.set, and_self, if_true, if_false, Bool.false_eq_true, Bool.not_true, Bool.not_false, List.length, List.length_cons, List.length_nil, eq_self, Nat.zero_add, Nat.reduceAdd, Nat.reduceLeDiff, Option.bind_some, Option.isSome_some, decide_true, decide_false, List.length_map, seqOf, forStep, bindTg, r1, r2, r3, r4, ha, t]
theorem e_right_1 {n : Nat} [H_lawE_right_1 I L fs] {G : Hh} (hP : PoolAt G n) (k : Nat) (hk : 11 ≤ k) : ∃ G', run L fs k I.lawE_right_1 [.ref n] G = .ok (.bl true) G' := by
  obtain ⟨k, rfl⟩ : ∃ m, k = m + 1 := ⟨k - 1, by omega⟩
  have hlt := hP.lt
  have hi : L.inits[I.c_desks_Desk]? = some (I.desks_Desk_init, 3) := A_c_desks_Desk
  have hmk := fun ρ => d_mk (I := I) (L := L) (fs := fs) hi k G (by omega) ρ
  have hD1 := dk_mk (I := I) G
  have hP1 : PoolAt (mkCells I G) n := by
    obtain ⟨a, b, c, h⟩ := hP
    exact ⟨a, b, c, by rw [mkCells, List.append_assoc, List.getElem?_append_left hlt]; exact h⟩
  generalize mkCells I G = G1 at hmk hD1 hP1
  have n1 : n ≠ G.length := by omega
  have n2 : n ≠ G.length + 1 := by omega
  obtain ⟨ρ2, G2, ⟨form, deeds, past, o4, o5, o6, rfl, hP2, hD2, hf, h1, hl, hno, hok, _, _⟩, e1⟩ := loop_h (I := RI80 I n G.length (G.length + 1)) (xs := rangeW 0 (18 : Int).toNat) (fun i x ρ G hx hI => turn80 (L := L) (fs := fs) n1 n2 k (by omega) i x ρ G (by
    have := (List.getElem?_eq_some_iff.mp hx).1
    rw [rangeW_len] at this
    exact this) hI) 0 [some (.ref n), some (.ref G.length), some (.tup [.int 1]), some (.tup []), none, none, none] G1 ⟨[1], [], [], none, none, none, rfl, hP1, hD1, fun w hw => by
      have : w = 1 := by simpa using hw
      subst this
      decide, by decide, by decide, by decide, fun d hd => by simp at hd, by simp, by simp⟩ (Nat.zero_le _)
  rw [List.drop_zero] at e1
  have r := e_nought (I := I) (L := L) (fs := fs) form k G2 (by omega) (hf.sf (by omega)) h1
  rw [hno] at r
  refine ⟨G2, ?_⟩
  rw [run_at (A_lawE_right_1 L) rfl k _ G rfl]
  have a18 : (18 : Int) ≤ 1000000 ∧ -1000000 ≤ (18 : Int) := by omega
  simp (disch := first | assumption | omega) only [List.map, List.map_cons, List.map_nil, Nat.reduceSub, List.replicate, List.cons_append, List.nil_append, List.append_nil, xs_cons, xs_nil, x_ret, x_asg, x_par, x_unp, x_drop, x_cond, x_loop, x_wh, x_raise1, x_setL, x_setF, x_app, x_try, e_fld, e_meth, e_lstT, g_nm, g_nil, IG.len, e_non, e_bl, e_int, e_str, e_v, e_g, e_op, e_neg, e_cmp, e_chain, e_and, e_or, e_not, e_ife, e_tup, e_lstF, e_ix, e_sl, e_call, e_bi, e_lc, e_isT, e_inG, e_ixG, es_nil, es_cons, es_star, o_no, o_yes, t_yes, t_and, t_or, t_not, t_val, t_tru, i_seq, i_r1, i_r2, i_enum, getS0, getSs, ofO_s, bindOk, bindEx, thnOk, thnEx, sthnNx, sthnRt, sthnEx, noexOk, endK_rt, endK_nx, endK_ex, c_eq_i, c_ne_i, c_eq_s, c_ne_s, c_lt, c_le, c_gt, c_ge, c_isN, c_notN, o_add, o_sub, o_mul, o_mod, o_div, o_addL, o_addT, tru_bl, tru_i, e_callK, e_callV, e_dct, e_mk, x_par3, x_setD, x_raise0, bi_lenT, bi_lenL, bi_min, bi_min2, bi_max2, bi_abs, bi_int, bi_intb, bi_tupL, bi_tupT, bi_lstT, bi_lstL, sl_L, sl_T, isNon, Option.map, List.set, and_self, if_true, if_false, Bool.false_eq_true, Bool.not_true, Bool.not_false, List.length, List.length_cons, List.length_nil, eq_self, Nat.zero_add, Nat.reduceAdd, Nat.reduceLeDiff, Option.bind_some, Option.isSome_some, decide_true, decide_false, List.length_map, seqOf, f_lawE_right_1, b_lawE_right_1, hmk, a18, e1, r]
end
end PI
end

section
set_option autoImplicit false
namespace PI
namespace Law
theorem plain (ns : List Int) (hn : ns.length ≤ 63) : ∃ G', run lib fs 20 0 [.lst (ns.map .int)] [] = .ok (.bl true) G' := by
  obtain ⟨G', e⟩ := all_turns (I := I0) (L := lib) (fs := fs) (c0 := 60029) (c1 := 5011) (R := I0.lawE_right_1) (a := 2) (b := 3) (by omega) (by omega) ns hn 19 (by omega) (fun G n hP => e_right_1 (I := I0) (L := lib) (fs := fs) hP 19 (by omega)) []
  refine ⟨G', ?_⟩
  show run lib fs 20 I0.law_k80 _ _ = _
  rw [run_at at_law_k80 rfl 19 _ [] rfl]
  show endK (exSs lib (run lib fs 19) (b_law_k80 I0) [some (.lst (ns.map .int)), none] []) = _
  unfold b_law_k80
  rw [e]
  rfl
end Law
end PI
end
open PySem PySem.W PyProof.Rows
set_option maxHeartbeats 0 in
theorem PySem.Challenge.cw_noughtforms_k80_whole_desks_led_holds : PySem.Challenge.rw_noughtforms_k80_whole_desks_led.Holds := by
  w_on; o_law; k_head; (case hw => w_witness2)
  k_fill
  refine PI.walk_run (l := PySem.Challenge.rw_noughtforms_k80_whole_desks_led) (D := PI.Law.dat) (i := 0) (k := 20) (F := PI.Law.f_law_k80 PI.Law.I0) (px := Str.ofString "script") rfl (by decide) rfl (PI.room_run (by decide)) (fun w h Y => PySem.W.kIn_of Y) rfl rfl rfl (by decide) rfl rfl rfl ?ok ?lit ?plain
  case ok =>
    intro p
    kernel_rfl
  case lit =>
    intro p x hx
    obtain rfl : x = Str.ofString "SIZES" := by simpa [PI.Law.dat] using hx
    exact ⟨⟨_, _, rfl, rfl⟩, ⟨_, _, rfl, rfl⟩, ⟨_, _, rfl, rfl⟩, trivial⟩
  case plain =>
    intro ns hn
    exact PI.Law.plain ns hn
