import PyProof.Rows.All
import Wide.All
import OpenK.AllK
import Wide.FinOn
import HandS.TupMul
import HandS.ForMost
import HandS.ForExc
import HandS.Wide
import HandS.WideBits
import HandS.TupAny
import HandS.Zip
import HandS.Flow
import HandS.IsInst
import HandS.Deep
import HandS.Small
import PyProof.ReprRoads
import KE.KTupSum
import KE.GoesNew
import HandS.Style
import HandS.WordsExc
import HandS.EndBits
import HandS.SortInts
import HandS.SortRule
import HandS.TupSets
import PyProof.Rows.StrJoinMade
import PySem.Challenge.RW_seattable_k42_rules_and_their_rows
set_option Elab.async false
set_option linter.all false
set_option maxRecDepth 100000
set_option maxHeartbeats 4000000
/-! M0: tuple * 1 is the tuple itself. -/
namespace L2
open PySem PySem.Spec PyProof.Rows
theorem tuple_mulW1 (l : Addr) (items : Array Value) (n : Nat) (dd : Option Addr) (sl : Array (Option Value)) (u : Tok) (hc1 : (items.isEmpty || ((1 : Int) == 1)) = true) :
    Meets (Builtin.«tuple.__mul__» ⟨[.ref l, .int 1 u], []⟩) (fun _ R s => s.heap.get? l = some { cls := .type "tuple", dict := dd, data := .seq items n, slots := sl } ∧
      R (.ok (.ret (Value.ref l))) { s with heap := s.heap, toks := s.toks }) :=
  .of_wp fun prog w A R s h => by
    obtain ⟨hp, g, d, tk, os⟩ := s
    obtain ⟨hl, h⟩ := h
    have f1 := AutoSeq1.idx_int
    wp_walk using wpAny_loadPart' hl
    repeat (first
      | (refine wpAny_ite_false (decide_eq_false (by decide)) ?_; wp_walk using wpAny_loadPart' hl)
      | (refine wpAny_ite_true (decide_eq_true hc1) ?_; wp_walk using wpAny_loadPart' hl))
    exact ⟨_, rfl, h⟩
def rRepT1 (K : PySem.W.Frag) : R2 := fun x y H Q => ∃ l xs, x = .ref l ∧ y = .int 1 ∧ SqT K H l xs ∧ Q (.ref l) H
theorem op_repT1 {X : Cx} : OpR X (binaryOp .Mult) (rRepT1 X.K) := by
  intro pins s σ H x y v u Q I rx ry h
  obtain ⟨l, xs, rfl, rfl, hT, q⟩ := h
  cases rx
  obtain ⟨t, rfl⟩ := ry
  obtain ⟨its, r, ⟨⟨cls, dd, data, sl⟩, ho, hc, n, hd⟩, hs⟩ := I.tuple hT
  simp only at hc hd
  subst hc hd
  have c1 : (its.toArray.isEmpty || ((1 : Int) == 1)) = true := by simp
  refine wpAny_binaryOp_repeat_ref (T := "tuple") (U := "int") (by decide) ⟨_, ho, rfl⟩ (fun s' => typeIs_int s' 1 t) noFill_tuple_mul F.fills_int_mul F.slot_int_rmul repeat_tuple F.slot_int_index.lookup
    (call_meets F.slot_int_rmul (typeIs_int s 1 t) F.entry_int_rmul (F.args_int_rmul_2 _ _) (int_rmul_tuple 1 t l its.toArray n dd sl)
      ⟨ho, rfl, ⟨_, ho, rfl⟩, call_meets F.slot_tuple_mul ⟨_, ho, rfl⟩ F.entry_tuple_mul (F.args_tuple_mul_2 _ _) (tuple_mulW1 l its.toArray n dd sl t c1) ⟨ho, ?_⟩⟩)
  exact ⟨.ref l, H, I, rfl, q⟩
end L2
set_option Elab.async false
set_option linter.all false
set_option maxRecDepth 100000
/-! M1: an evaluator of our own over pure values. -/
namespace MM
open PySem PySem.Spec PyProof.Rows L2
inductive MV where
  | non | bl (b : Bool) | int (i : Int) | str (x : Str)
  | tup (xs : List MV) | lst (xs : List MV) | scr (xs : List MV)
  | ref (n : Nat) | atm (v : V)
  deriving Inhabited
inductive MC where
  | lst (xs : List MV)
  | dct (kvs : List (Int × MV))
  deriving Inhabited
abbrev MH := List MC
inductive Res (α : Type) where
  | ok (a : α) (h : MH)
  | exc (x : Str) (fs : List (Str × MV)) (h : MH)
  | bad
namespace Res
def bind {α β : Type} (r : Res α) (k : α → MH → Res β) : Res β :=
  match r with
  | .ok a h => k a h
  | .exc x f h => .exc x f h
  | .bad => .bad
/-- nothing may be raised -/
def nox {α : Type} (r : Res α) : Res α :=
  match r with
  | .ok a h => .ok a h
  | _ => .bad
@[simp] theorem bind_ok {α β : Type} (a : α) (h : MH) (k : α → MH → Res β) : (Res.ok a h).bind k = k a h := rfl
@[simp] theorem bind_exc {α β : Type} (x : Str) (f : List (Str × MV)) (h : MH) (k : α → MH → Res β) : (Res.exc x f h : Res α).bind k = .exc x f h := rfl
@[simp] theorem bind_bad {α β : Type} (k : α → MH → Res β) : (Res.bad : Res α).bind k = .bad := rfl
@[simp] theorem nox_ok {α : Type} (a : α) (h : MH) : (Res.ok a h).nox = .ok a h := rfl
end Res
/-! ### pure values -/
def natsEq : List Nat → List Nat → Bool
  | [], [] => true
  | a :: r, b :: s => Nat.beq a b && natsEq r s
  | _, _ => false
def strEq (x y : Str) : Bool := natsEq x.cps.toList y.cps.toList
theorem natsEq_iff : ∀ (a b : List Nat), natsEq a b = true ↔ a = b
  | [], [] => by simp [natsEq]
  | [], _ :: _ => by simp [natsEq]
  | _ :: _, [] => by simp [natsEq]
  | a :: r, b :: s => by simp [natsEq, natsEq_iff r s]
theorem strEq_iff (x y : Str) : strEq x y = true ↔ x = y := by
  unfold strEq
  rw [natsEq_iff]
  obtain ⟨x⟩ := x
  obtain ⟨y⟩ := y
  constructor
  · intro h
    have : x = y := by
      apply Array.toList_inj.mp
      exact h
    rw [this]
  · intro h
    cases h
    rfl
theorem strEq_dec (x y : Str) : strEq x y = decide (x = y) := by
  rw [Bool.eq_iff_iff, strEq_iff, decide_eq_true_iff]
def strFine (x : Str) : Bool := x.cps.toList.all fun c => Nat.ble c 1114111
mutual
/-- data of at most so many levels, no cells, texts of signs -/
def shp : Nat → MV → Bool
  | _, .non => true
  | _, .bl _ => true
  | _, .int _ => true
  | _, .str x => strFine x
  | n + 1, .tup xs => shpL n xs
  | n + 1, .lst xs => shpL n xs
  | _, _ => false
def shpL : Nat → List MV → Bool
  | _, [] => true
  | n, x :: xs => shp n x && shpL n xs
end
mutual
/-- == of data -/
def eqv : MV → MV → Bool
  | .non, .non => true
  | .bl a, .bl b => a == b
  | .bl a, .int j => decide ((if a then (1 : Int) else 0) = j)
  | .int i, .bl b => decide (i = (if b then (1 : Int) else 0))
  | .int i, .int j => decide (i = j)
  | .str x, .str y => strEq x y
  | .tup xs, .tup ys => eqvL xs ys
  | .lst xs, .lst ys => eqvL xs ys
  | _, _ => false
def eqvL : List MV → List MV → Bool
  | [], [] => true
  | x :: xs, y :: ys => eqv x y && eqvL xs ys
  | _, _ => false
end
mutual
/-- what a cell may hold: atoms, tuples of such -/
def flt : MV → Bool
  | .tup xs => fltL xs
  | .lst _ => false
  | .ref _ => false
  | .scr _ => false
  | .atm _ => false
  | _ => true
def fltL : List MV → Bool
  | [] => true
  | x :: xs => flt x && fltL xs
end
/-- a cell as it stands behind a def: its own cells as what they hold -/
def thawR (base : Nat) (h : MH) (n : Nat) : MV := if Nat.blt n base then .ref n else match h[n]? with
  | some (.lst xs) => .lst xs
  | _ => .non
def thkR (base : Nat) (h : MH) (n : Nat) : Bool := Nat.blt n base || match h[n]? with
  | some (.lst _) => true
  | _ => false
mutual
/-- a value as it stands behind a def: the def's own cells as what they hold -/
def thaw (base : Nat) (h : MH) : MV → MV
  | .tup xs => .tup (thawL base h xs)
  | .lst xs => .lst (thawL base h xs)
  | .scr xs => .scr (thawL base h xs)
  | .ref n => thawR base h n
  | v => v
def thawL (base : Nat) (h : MH) : List MV → List MV
  | [] => []
  | x :: xs => thaw base h x :: thawL base h xs
end
mutual
def thk (base : Nat) (h : MH) : MV → Bool
  | .tup xs => thkL base h xs
  | .lst xs => thkL base h xs
  | .scr xs => thkL base h xs
  | .ref n => thkR base h n
  | _ => true
def thkL (base : Nat) (h : MH) : List MV → Bool
  | [] => true
  | x :: xs => thk base h x && thkL base h xs
end
/-- a list's or tuple's items -/
def seqOf (h : MH) : MV → Option (List MV)
  | .tup xs => some xs
  | .lst xs => some xs
  | .scr xs => some xs
  | .ref n => match h[n]? with
    | some (.lst xs) => some xs
    | _ => none
  | _ => none
/-- the value with its own cell read -/
def derf (h : MH) : MV → MV
  | .ref n => match h[n]? with
    | some (.lst xs) => .lst xs
    | _ => .ref n
  | v => v
/-- a list's items -/
def lstOf (h : MH) (x : MV) : Option (List MV) := match derf h x with
  | .lst xs => some xs
  | _ => none
def truth (h : MH) : MV → Option Bool
  | .non => some false
  | .bl b => some b
  | .int i => some (decide (i ≠ 0))
  | .str x => if x.cps.size ≤ sizeLine then some (decide (x.cps.size ≠ 0)) else none
  | .tup xs => some (!xs.isEmpty)
  | .lst xs => some (!xs.isEmpty)
  | .scr xs => some (!xs.isEmpty)
  | .ref n => match h[n]? with
    | some (.lst xs) => some (!xs.isEmpty)
    | some (.dct kvs) => some (!kvs.isEmpty)
    | none => none
  | .atm _ => none
/-! ### operators -/
inductive BO where | add | sub | mul | fdiv | mod | pow
  deriving DecidableEq
inductive CO where | eq | ne | lt | le | gt | ge | isIn | notIn
  deriving DecidableEq
def mulOk (a b : Int) : Bool := Nat.ble (a.natAbs.log2 + b.natAbs.log2) 134217000
def divOk (a b : Int) : Bool := decide (0 < b) && (Nat.ble b.natAbs.log2 8990 || Nat.ble a.natAbs.log2 (b.natAbs.log2 + 4400))
def powOk (a b : Int) : Bool := decide (0 ≤ b) && decide (b ≤ 1000) && Nat.ble a.natAbs.log2 63
/-- the rows of an integer list -/
def intsOf : List MV → Option (List Int)
  | [] => some []
  | .int i :: r => (intsOf r).map (i :: ·)
  | _ => none
def blsOf : List MV → Option (List Bool)
  | [] => some []
  | .bl i :: r => (blsOf r).map (i :: ·)
  | _ => none
def okIf {α : Type} (c : Bool) (a : α) (h : MH) : Res α := if c then .ok a h else .bad
@[simp] theorem okIf_true {α : Type} (a : α) (h : MH) : okIf true a h = .ok a h := rfl
def lenOk (n : Nat) : Bool := Nat.ble n 16000000
def binV (op : BO) (x y : MV) (h : MH) : Res MV :=
  match op, x, y with
  | .add, .int a, .int b => .ok (.int (a + b)) h
  | .add, .str a, .str b => okIf (lenOk (a.cps.size + b.cps.size)) (.str (a ++ b)) h
  | .add, .tup a, .tup b => okIf (lenOk (a.length + b.length)) (.tup (a ++ b)) h
  | .sub, .int a, .int b => .ok (.int (a - b)) h
  | .mul, .int a, .int b => okIf (mulOk a b) (.int (a * b)) h
  | .mul, .tup a, .int k => okIf (!a.isEmpty && Nat.ble a.length 1000 && decide (1 ≤ k) && decide (k ≤ 1000)) (.tup (List.replicate k.toNat a).flatten) h
  | .fdiv, .int a, .int b => okIf (divOk a b) (.int (a / b)) h
  | .mod, .int a, .int b => okIf (decide (0 < b)) (.int (a % b)) h
  | .pow, .int a, .int b => okIf (powOk a b) (.int (a ^ b.toNat)) h
  | _, _, _ => .bad
def lexLtI : List Int → List Int → Bool := HT.lexLt
def inL (x : MV) : List MV → Bool
  | [] => false
  | y :: ys => eqv y x || inL x ys
def cmpV (op : CO) (x y : MV) (h : MH) : Res MV :=
  match op with
  | .eq => okIf (shp 60 (derf h x) && shp 60 (derf h y)) (.bl (eqv (derf h x) (derf h y))) h
  | .ne => okIf (shp 60 (derf h x) && shp 60 (derf h y)) (.bl (!eqv (derf h x) (derf h y))) h
  | .lt => match x, y with
    | .int a, .int b => .ok (.bl (decide (a < b))) h
    | .tup a, .tup b => match intsOf a, intsOf b with
      | some a, some b => .ok (.bl (lexLtI a b)) h
      | _, _ => .bad
    | _, _ => .bad
  | .le => match x, y with
    | .int a, .int b => .ok (.bl (decide (a ≤ b))) h
    | _, _ => .bad
  | .gt => match x, y with
    | .int a, .int b => .ok (.bl (decide (b < a))) h
    | _, _ => .bad
  | .ge => match x, y with
    | .int a, .int b => .ok (.bl (decide (b ≤ a))) h
    | _, _ => .bad
  | .isIn => match seqOf h y with
    | some ys => okIf (shp 50 x && shpL 50 ys) (.bl (inL x ys)) h
    | none => .bad
  | .notIn => match seqOf h y with
    | some ys => okIf (shp 50 x && shpL 50 ys) (.bl (!inL x ys)) h
    | none => .bad
/-! ### subscripts and slices -/
def ixV (x i : MV) (h : MH) : Res MV :=
  match i with
  | .int i => match x with
    | .str z => match if z.cps.size ≤ sizeLine then atI z.cps.toList i else none with
      | some c => .ok (.str ⟨#[c]⟩) h
      | none => .bad
    | x => match (seqOf h x).bind (atI · i) with
      | some v => .ok v h
      | none => .bad
  | _ => .bad
def cutM (xs : List MV) (lo hi : Option Int) : List MV := (xs.drop (HT.sIx xs.length 0 lo)).take (HT.sIx xs.length xs.length hi - HT.sIx xs.length 0 lo)
def slV (x : MV) (lo hi : Option Int) (h : MH) : Res MV :=
  match x with
  | .tup xs => .ok (.tup (cutM xs lo hi)) h
  | _ => .bad
/-! ### built-ins -/
inductive TyN where | int | bool | tuple | str | list
  deriving DecidableEq
def tyOf (t : TyN) : MV → MH → Option Bool
  | .non, _ => some false
  | .bl _, _ => some (t == .bool || t == .int)
  | .int _, _ => some (t == .int)
  | .str _, _ => some (t == .str)
  | .tup _, _ => some (t == .tuple)
  | .lst _, _ => some (t == .list)
  | _, _ => none
inductive BI where | len | sum | abs | max2 | min2 | maxL | minL | all | any | tup | toInt
  deriving DecidableEq
def maxI : Int → List Int → Int
  | a, [] => a
  | a, b :: r => maxI (if b > a then b else a) r
def minI : Int → List Int → Int
  | a, [] => a
  | a, b :: r => minI (if b < a then b else a) r
def biV (b : BI) (vs : List MV) (h : MH) : Res MV :=
  match b, vs with
  | .len, [.str x] => okIf (Nat.ble x.cps.size sizeLine) (.int x.cps.size) h
  | .len, [x] => match seqOf h x with
    | some xs => .ok (.int xs.length) h
    | none => .bad
  | .sum, [x] => match (seqOf h x).bind intsOf with
    | some ns => .ok (.int ns.sum) h
    | none => .bad
  | .abs, [.int i] => .ok (.int (if i < 0 then -i else i)) h
  | .max2, [.int i, .int j] => .ok (.int (if j > i then j else i)) h
  | .min2, [.int i, .int j] => .ok (.int (if j < i then j else i)) h
  | .maxL, [x] => match (lstOf h x).bind intsOf with
    | some (n :: ns) => .ok (.int (maxI n ns)) h
    | _ => .bad
  | .minL, [x] => match (lstOf h x).bind intsOf with
    | some (n :: ns) => .ok (.int (minI n ns)) h
    | _ => .bad
  | .all, [x] => match (lstOf h x).bind blsOf with
    | some bs => .ok (.bl (bs.all id)) h
    | none => .bad
  | .any, [x] => match (lstOf h x).bind blsOf with
    | some bs => .ok (.bl (bs.any id)) h
    | none => .bad
  | .tup, [x] => match seqOf h x with
    | some xs => .ok (.tup xs) h
    | none => .bad
  | .toInt, [.int i] => .ok (.int i) h
  | .toInt, [.bl b] => .ok (.int (if b then 1 else 0)) h
  | _, _ => .bad
/-! ### syntax -/
mutual
inductive ME where
  | var (i : Nat) | int (i : Int) | bl (b : Bool) | non | str (x : Str)
  | glb (x : Str) (v : MV)
  | bin (op : BO) (a b : ME)
  | neg (a : ME)
  | cmp (op : CO) (a b : ME)
  | cmp2 (o1 o2 : CO) (a b c : ME)
  | isN (a : ME) | notN (a : ME)
  | isB (k : Bool) (a : ME) | notB (k : Bool) (a : ME)
  | not_ (a : ME) | and_ (es : MEs) | or_ (es : MEs)
  | ite (c : MB) (a b : ME)
  | tup (es : MEs)
  | ix (a i : ME)
  | sl (a : ME) (lo hi : MO)
  | call (f : Nat) (es : MEs)
  | bi (b : BI) (es : MEs)
  | isi (t : TyN) (a : ME)
  | fr (f : MF)
  | box (f : MF)
  | append (o a : ME) | pop (o : ME) | repr (a : ME)
inductive MEs where | nil | cons (e : ME) (es : MEs)
/-- tests -/
inductive MB where | val (m : ME) | not_ (b : MB) | all (bs : MBs) | any (bs : MBs) | tt
inductive MBs where | nil | cons (b : MB) (bs : MBs)
inductive MO where | none | some (e : ME)
/-- what makes a new list -/
inductive MF where
  | disp (es : MEs)
  | toList (a : ME)
  | cat (a b : ME)
  | rep (a k : ME)
  | cut (a : ME) (lo hi : MO)
  | sorted (a : ME) | sortedSet (a : ME)
  | comp (own : List Nat) (tg : MT) (it : MI) (c : MB) (elt : ME)
  | comp2 (own own1 : List Nat) (tg : MT) (it : MI) (c : MB) (tg1 : MT) (it1 : MI) (c1 : MB) (elt : ME)
/-- what a loop goes over -/
inductive MI where
  | seq (a : ME) | range1 (a : ME) | range2 (a b : ME) | enum (a : ME) | zip2 (a b : ME) | zip3 (a b c : ME) | enumZip2 (a b : ME) | enumZip3 (a b c : ME)
inductive MT where
  | nm (i : Nat) | tup (ts : MTs) | ix (a i : ME)
inductive MTs where | nil | cons (t : MT) (ts : MTs)
end
inductive MS where
  | expr (e : ME) | asg (t : MT) (e : ME)
  | aug (i : Nat) (op : BO) (e : ME)
  | augIx (a i : ME) (op : BO) (e : ME)
  | ret (e : ME) | retN
  | ifS (c : MB) (a b : List MS)
  | whl (c : MB) (body : List MS)
  | forS (t : MT) (it : MI) (body : List MS)
  | brk | cont | pass
  | raise (x : Str) (m : Str)
  | raiseA (x : Str) (es : MEs)
abbrev MEnv := List (Option MV)
abbrev Callee := Nat → List MV → MH → Res MV
/-- the slots of a comprehension's own names forgotten -/
def wipeM (e : MEnv) : List Nat → MEnv
  | [] => e
  | i :: r => (wipeM e r).set i none
mutual
/-- data alike to the sign -/
def same : MV → MV → Bool
  | .non, .non => true
  | .bl a, .bl b => a == b
  | .int a, .int b => decide (a = b)
  | .str x, .str y => strEq x y
  | .tup xs, .tup ys => sameL xs ys
  | .lst xs, .lst ys => sameL xs ys
  | .scr xs, .scr ys => sameL xs ys
  | .ref a, .ref b => Nat.beq a b
  | _, _ => false
def sameL : List MV → List MV → Bool
  | [], [] => true
  | x :: xs, y :: ys => same x y && sameL xs ys
  | _, _ => false
end
/-- what a loop goes over: its items, and the cell that must stay -/
structure Src where
  items : List MV
  cell : Option (Nat × List MV)
def Src.stays (s : Src) (h : MH) : Bool := match s.cell with
  | none => true
  | some (n, xs) => match h[n]? with
    | some (.lst ys) => sameL xs ys
    | _ => false
def srcOf (h : MH) : MV → Option Src
  | .tup xs => some ⟨xs, none⟩
  | .lst xs => some ⟨xs, none⟩
  | .scr xs => some ⟨xs, none⟩
  | .ref n => match h[n]? with
    | some (.lst xs) => some ⟨xs, some (n, xs)⟩
    | _ => none
  | _ => none
def rangeM (lo : Int) (n : Nat) : List MV := (List.range n).map fun (k : Nat) => .int (lo + (k : Int))
def enumM : Nat → List MV → List MV
  | _, [] => []
  | i, x :: r => .tup [.int i, x] :: enumM (i + 1) r
def zipM : List MV → List MV → List MV
  | x :: xs, y :: ys => .tup [x, y] :: zipM xs ys
  | _, _ => []
def zip3M : List MV → List MV → List MV → List MV
  | x :: xs, y :: ys, z :: zs => .tup [x, y, z] :: zip3M xs ys zs
  | _, _, _ => []
/-! sorting: ints; tuples of ints -/
def insI (x : Int) : List Int → List Int
  | [] => [x]
  | y :: r => if x ≤ y then x :: y :: r else y :: insI x r
def sortI : List Int → List Int
  | [] => []
  | x :: r => insI x (sortI r)
def insT (x : List Int) : List (List Int) → List (List Int)
  | [] => [x]
  | y :: r => if lexLtI y x then y :: insT x r else x :: y :: r
def sortT : List (List Int) → List (List Int)
  | [] => []
  | x :: r => insT x (sortT r)
def tupOf : MV → Option (List Int)
  | .tup xs => intsOf xs
  | _ => none
/-- tuples of ints, none empty -/
def tupsOf : List MV → Option (List (List Int))
  | [] => some []
  | x :: r => match tupOf x, tupsOf r with
    | some (n :: ns), some ts => some ((n :: ns) :: ts)
    | _, _ => none
def tupM (ns : List Int) : MV := .tup (ns.map .int)
def sortV (xs : List MV) : Option (List MV) := match intsOf xs with
  | some ns => some ((sortI ns).map .int)
  | none => match tupsOf xs with
    | some ts => some ((sortT ts).map tupM)
    | none => none
def memT (x : List Int) : List (List Int) → Bool
  | [] => false
  | y :: r => decide (x = y) || memT x r
/-- the last of each -/
def nubT : List (List Int) → List (List Int)
  | [] => []
  | x :: r => if memT x r then nubT r else x :: nubT r
def evenT (d : Nat) : List (List Int) → Bool
  | [] => true
  | x :: r => Nat.beq x.length d && x.all (fun i => decide (0 ≤ i)) && evenT d r
/-- sorted(set(..)) of fewer than 64 tuples of as many ints, none below 0 -/
def sortSetV (xs : List MV) : Option (List MV) := match tupsOf xs with
  | some [] => some []
  | some (t :: ts) => if Nat.blt (ts.length + 1) 64 && evenT t.length (t :: ts) then some ((sortT (nubT (t :: ts))).map tupM) else none
  | none => none
def small62 (i : Int) : Bool := decide (-(2 ^ 62) ≤ i) && decide (i < 2 ^ 62)
/-- the turns of a comprehension -/
def compL2 (tg : MV → MEnv → MH → Res MEnv) (c : MEnv → MH → Res Bool) (inner : MEnv → MH → Res (List MV)) (e : MEnv) (stay : MH → Bool) : List MV → MH → Res (List MV)
  | [], h => .ok [] h
  | x :: xs, h => (tg x e h).bind fun e1 h1 => (c e1 h1).bind fun b h2 =>
    if b then (inner e1 h2).bind fun ws h3 => if stay h3 then (compL2 tg c inner e stay xs h3).bind fun vs h4 => .ok (ws ++ vs) h4 else .bad
    else if stay h2 then compL2 tg c inner e stay xs h2 else .bad
def setIx (o i v : MV) (h : MH) : Res Unit :=
  match o, i with
  | .ref n, .int i => match h[n]? with
    | some (.lst xs) => match ixN xs.length i with
      | some j => okIf (flt v) () (h.set n (.lst (xs.set j v)))
      | none => .bad
    | _ => .bad
  | _, _ => .bad
mutual
def toPD : MV → PyData
  | .non => .none
  | .bl b => .bool b
  | .int i => .int i
  | .str x => .str x
  | .tup xs => .tuple (toPDs xs)
  | .lst xs => .list (toPDs xs)
  | _ => .none
def toPDs : List MV → List PyData
  | [] => []
  | x :: xs => toPD x :: toPDs xs
end
/-- repr of a tuple or a list -/
def reprD (d : MV) (h : MH) : Res MV := okIf (shp 50 d && (toPD d).showable && Nat.ble (toPD d).shown.length 16000000) (.str (toPD d).shown) h
def reprV (x : MV) (h : MH) : Res MV := match derf h x with
  | .tup xs => reprD (.tup xs) h
  | .lst xs => reprD (.lst xs) h
  | _ => .bad
def appendV (x v : MV) (h : MH) : Res MV := match x with
  | .ref n => match h[n]? with
    | some (.lst xs) => okIf (flt v && lenOk xs.length) .non (h.set n (.lst (xs ++ [v])))
    | _ => .bad
  | _ => .bad
def popV (x : MV) (h : MH) : Res MV := match x with
  | .ref n => match h[n]? with
    | some (.lst xs) => match xs[xs.length - 1]? with
      | some v => .ok v (h.set n (.lst xs.dropLast))
      | none => .bad
    | _ => .bad
  | _ => .bad
/-- list += list -/
def extV (x y : MV) (h : MH) : Res MV := match x with
  | .ref n => match h[n]? with
    | some (.lst xs) => match derf h y with
      | .lst ys => okIf (fltL ys && lenOk (xs.length + ys.length)) (.ref n) (h.set n (.lst (xs ++ ys)))
      | _ => .bad
    | _ => .bad
  | _ => .bad
/-- x op= y -/
def ipV (op : BO) (x y : MV) (h : MH) : Res MV := match op, x with
  | .add, .ref n => extV (.ref n) y h
  | .add, .tup _ => .bad
  | op, x => binV op x y h
mutual
def evE (G : Callee) : ME → MEnv → MH → Res MV
  | .var i, e, h => match e[i]? with
    | some (some v) => .ok v h
    | _ => .bad
  | .int i, _, h => .ok (.int i) h
  | .bl b, _, h => .ok (.bl b) h
  | .non, _, h => .ok .non h
  | .str x, _, h => .ok (.str x) h
  | .glb _ v, _, h => .ok v h
  | .bin op a b, e, h => (evE G a e h).bind fun x h1 => (evE G b e h1).bind fun y h2 => binV op x y h2
  | .neg a, e, h => (evE G a e h).bind fun x h1 => match x with
    | .int i => .ok (.int (-i)) h1
    | _ => .bad
  | .cmp op a b, e, h => (evE G a e h).bind fun x h1 => (evE G b e h1).bind fun y h2 => cmpV op x y h2
  | .cmp2 o1 o2 a b c, e, h => (evE G a e h).bind fun x h1 => (evE G b e h1).bind fun y h2 => (cmpV o1 x y h2).bind fun k h3 => match k with
    | .bl true => (evE G c e h3).bind fun z h4 => cmpV o2 y z h4
    | .bl false => .ok (.bl false) h3
    | _ => .bad
  | .isN a, e, h => (evE G a e h).bind fun x h1 => match x with
    | .atm _ => .bad
    | .non => .ok (.bl true) h1
    | _ => .ok (.bl false) h1
  | .notN a, e, h => (evE G a e h).bind fun x h1 => match x with
    | .atm _ => .bad
    | .non => .ok (.bl false) h1
    | _ => .ok (.bl true) h1
  | .isB k a, e, h => (evE G a e h).bind fun x h1 => match x with
    | .bl b => .ok (.bl (b == k)) h1
    | _ => .bad
  | .notB k a, e, h => (evE G a e h).bind fun x h1 => match x with
    | .bl b => .ok (.bl (!(b == k))) h1
    | _ => .bad
  | .not_ a, e, h => (evE G a e h).bind fun x h1 => match truth h1 x with
    | some b => .ok (.bl (!b)) h1
    | none => .bad
  | .and_ es, e, h => evAnd G es e h
  | .or_ es, e, h => evOr G es e h
  | .ite c a b, e, h => (evB G c e h).bind fun k h1 => if k then evE G a e h1 else evE G b e h1
  | .tup es, e, h => (evEs G es e h).bind fun vs h1 => okIf (lenOk vs.length) (.tup vs) h1
  | .ix a i, e, h => (evE G a e h).bind fun x h1 => (evE G i e h1).bind fun y h2 => ixV x y h2
  | .sl a lo hi, e, h => (evE G a e h).bind fun x h1 => (evO G lo e h1).bind fun l h2 => (evO G hi e h2).bind fun u h3 => slV x l u h3
  | .call f es, e, h => (evEs G es e h).bind fun vs h1 => G f vs h1
  | .bi b es, e, h => (evEs G es e h).bind fun vs h1 => biV b vs h1
  | .isi t a, e, h => (evE G a e h).bind fun x h1 => match tyOf t x h1 with
    | some b => .ok (.bl b) h1
    | none => .bad
  | .fr f, e, h => (evF G f e h).bind fun xs h1 => .ok (.lst xs) h1
  | .box f, e, h => (evF G f e h).bind fun xs h1 => okIf (fltL xs) (.ref h1.length) (h1 ++ [.lst xs])
  | .append o a, e, h => (evE G o e h).bind fun x h1 => match derf h1 x with
    | .lst _ => (evE G a e h1).bind fun v h2 => appendV x v h2
    | _ => .bad
  | .pop o, e, h => (evE G o e h).bind fun x h1 => popV x h1
  | .repr a, e, h => (evE G a e h).bind fun x h1 => reprV x h1
def evEs (G : Callee) : MEs → MEnv → MH → Res (List MV)
  | .nil, _, h => .ok [] h
  | .cons a r, e, h => (evE G a e h).bind fun x h1 => (evEs G r e h1).bind fun xs h2 => .ok (x :: xs) h2
def evAnd (G : Callee) : MEs → MEnv → MH → Res MV
  | .nil, _, _ => .bad
  | .cons a r, e, h => (evE G a e h).bind fun x h1 => match r with
    | .nil => .ok x h1
    | r => match truth h1 x with
      | some true => evAnd G r e h1
      | some false => .ok x h1
      | none => .bad
def evOr (G : Callee) : MEs → MEnv → MH → Res MV
  | .nil, _, _ => .bad
  | .cons a r, e, h => (evE G a e h).bind fun x h1 => match r with
    | .nil => .ok x h1
    | r => match truth h1 x with
      | some false => evOr G r e h1
      | some true => .ok x h1
      | none => .bad
/-- tests -/
def evB (G : Callee) : MB → MEnv → MH → Res Bool
  | .val m, e, h => (evE G m e h).bind fun x h1 => match truth h1 x with
    | some b => .ok b h1
    | none => .bad
  | .not_ a, e, h => (evB G a e h).bind fun k h1 => .ok (!k) h1
  | .all bs, e, h => evAll G bs e h
  | .any bs, e, h => evAny G bs e h
  | .tt, _, h => .ok true h
def evAll (G : Callee) : MBs → MEnv → MH → Res Bool
  | .nil, _, h => .ok true h
  | .cons a r, e, h => (evB G a e h).bind fun k h1 => if k then evAll G r e h1 else .ok false h1
def evAny (G : Callee) : MBs → MEnv → MH → Res Bool
  | .nil, _, h => .ok false h
  | .cons a r, e, h => (evB G a e h).bind fun k h1 => if k then .ok true h1 else evAny G r e h1
def evO (G : Callee) : MO → MEnv → MH → Res (Option Int)
  | .none, _, h => .ok none h
  | .some a, e, h => (evE G a e h).bind fun x h1 => match x with
    | .int i => .ok (some i) h1
    | _ => .bad
def evF (G : Callee) : MF → MEnv → MH → Res (List MV)
  | .disp es, e, h => (evEs G es e h).bind fun vs h1 => okIf (lenOk vs.length) vs h1
  | .toList a, e, h => (evE G a e h).bind fun x h1 => match seqOf h1 x with
    | some xs => .ok xs h1
    | none => .bad
  | .cat a b, e, h => (evE G a e h).bind fun x h1 => (evE G b e h1).bind fun y h2 => match derf h2 x, derf h2 y with
    | .lst xs, .lst ys => okIf (lenOk (xs.length + ys.length)) (xs ++ ys) h2
    | _, _ => .bad
  | .rep a k, e, h => (evE G a e h).bind fun x h1 => (evE G k e h1).bind fun y h2 => match derf h2 x, y with
    | .lst xs, .int k => okIf (decide (0 ≤ k) && decide (k ≤ 1000000) && lenOk (xs.length * k.toNat)) (List.replicate k.toNat xs).flatten h2
    | _, _ => .bad
  | .cut a lo hi, e, h => (evE G a e h).bind fun x h1 => (evO G lo e h1).bind fun l h2 => (evO G hi e h2).bind fun u h3 => match derf h3 x with
    | .lst xs => .ok (cutM xs l u) h3
    | _ => .bad
  | .sorted a, e, h => (evE G a e h).bind fun x h1 => match (lstOf h1 x).bind sortV with
    | some xs => .ok xs h1
    | none => .bad
  | .sortedSet a, e, h => (evE G a e h).bind fun x h1 => match (lstOf h1 x).bind sortSetV with
    | some xs => .ok xs h1
    | none => .bad
  | .comp own tg it c elt, e, h => (evI G it e h).bind fun s h1 =>
    ((compL2 (fun x e h => evT G tg x e h) (fun e h => evB G c e h) (fun e h => (evE G elt e h).bind fun v h => .ok [v] h) (wipeM e own) s.stays s.items h1).bind fun vs h2 => okIf (lenOk vs.length) vs h2).nox
  | .comp2 own own1 tg it c tg1 it1 c1 elt, e, h => (evI G it e h).bind fun s h1 =>
    ((compL2 (fun x e h => evT G tg x e h) (fun e h => evB G c e h)
      (fun e h => (evI G it1 e h).bind fun s1 h1 =>
        compL2 (fun x e h => evT G tg1 x e h) (fun e h => evB G c1 e h) (fun e h => (evE G elt e h).bind fun v h => .ok [v] h) (wipeM e own1) s1.stays s1.items h1)
      (wipeM e own) s.stays s.items h1).bind fun vs h2 => okIf (lenOk vs.length) vs h2).nox
def evI (G : Callee) : MI → MEnv → MH → Res Src
  | .seq a, e, h => (evE G a e h).bind fun x h1 => match srcOf h1 x with
    | some s => .ok s h1
    | none => .bad
  | .range1 a, e, h => (evE G a e h).bind fun x h1 => match x with
    | .int j => okIf (small62 j) ⟨rangeM 0 j.toNat, none⟩ h1
    | _ => .bad
  | .range2 a b, e, h => (evE G a e h).bind fun x h1 => (evE G b e h1).bind fun y h2 => match x, y with
    | .int i, .int j => okIf (small62 i && small62 j) ⟨rangeM i (j - i).toNat, none⟩ h2
    | _, _ => .bad
  | .enum a, e, h => (evE G a e h).bind fun x h1 => match srcOf h1 x with
    | some s => .ok ⟨enumM 0 s.items, s.cell⟩ h1
    | none => .bad
  | .zip2 a b, e, h => (evE G a e h).bind fun x h1 => (evE G b e h1).bind fun y h2 => match srcOf h2 x, srcOf h2 y with
    | some s, some t => okIf (s.cell.isNone && t.cell.isNone) ⟨zipM s.items t.items, none⟩ h2
    | _, _ => .bad
  | .zip3 a b c, e, h => (evE G a e h).bind fun x h1 => (evE G b e h1).bind fun y h2 => (evE G c e h2).bind fun z h3 => match srcOf h3 x, srcOf h3 y, srcOf h3 z with
    | some s, some t, some u => okIf (s.cell.isNone && t.cell.isNone && u.cell.isNone) ⟨zip3M s.items t.items u.items, none⟩ h3
    | _, _, _ => .bad
  | .enumZip2 a b, e, h => (evE G a e h).bind fun x h1 => (evE G b e h1).bind fun y h2 => match srcOf h2 x, srcOf h2 y with
    | some s, some t => okIf (s.cell.isNone && t.cell.isNone) ⟨enumM 0 (zipM s.items t.items), none⟩ h2
    | _, _ => .bad
  | .enumZip3 a b c, e, h => (evE G a e h).bind fun x h1 => (evE G b e h1).bind fun y h2 => (evE G c e h2).bind fun z h3 => match srcOf h3 x, srcOf h3 y, srcOf h3 z with
    | some s, some t, some u => okIf (s.cell.isNone && t.cell.isNone && u.cell.isNone) ⟨enumM 0 (zip3M s.items t.items u.items), none⟩ h3
    | _, _, _ => .bad
def evT (G : Callee) : MT → MV → MEnv → MH → Res MEnv
  | .nm i, v, e, h => .ok (e.set i (some v)) h
  | .tup ts, v, e, h => match v with
    | .tup vs => evTs G ts vs e h
    | _ => .bad
  | .ix a i, v, e, h => ((evE G a e h).bind fun o h1 => (evE G i e h1).bind fun j h2 => (setIx o j v h2).bind fun _ h3 => .ok e h3).nox
def evTs (G : Callee) : MTs → List MV → MEnv → MH → Res MEnv
  | .nil, [], e, h => .ok e h
  | .cons t ts, v :: vs, e, h => (evT G t v e h).bind fun e1 h1 => evTs G ts vs e1 h1
  | _, _, _, _ => .bad
end
inductive Fl where | nx | bk | ct | rt (v : MV)
/-- loops: so many turns at most -/
def whlN (c : MEnv → MH → Res Bool) (b : MEnv → MH → Res (Fl × MEnv)) : Nat → MEnv → MH → Res (Fl × MEnv)
  | 0, _, _ => .bad
  | n + 1, e, h => (c e h).bind fun k h1 => if k then (b e h1).bind fun fe h2 => match fe.1 with
      | .nx => whlN c b n fe.2 h2
      | .ct => whlN c b n fe.2 h2
      | .bk => .ok (.nx, fe.2) h2
      | .rt v => .ok (.rt v, fe.2) h2
    else .ok (.nx, e) h1
def forL (tg : MV → MEnv → MH → Res MEnv) (b : MEnv → MH → Res (Fl × MEnv)) (stay : MH → Bool) : List MV → MEnv → MH → Res (Fl × MEnv)
  | [], e, h => .ok (.nx, e) h
  | x :: xs, e, h => (tg x e h).nox.bind fun e1 h1 => (b e1 h1).bind fun fe h2 => match fe.1 with
    | .nx => if stay h2 then forL tg b stay xs fe.2 h2 else .bad
    | .ct => if stay h2 then forL tg b stay xs fe.2 h2 else .bad
    | .bk => .ok (.nx, fe.2) h2
    | .rt v => .ok (.rt v, fe.2) h2
open Classical in
/-- loops: as many turns as it takes -/
noncomputable def whlF (c : MEnv → MH → Res Bool) (b : MEnv → MH → Res (Fl × MEnv)) (e : MEnv) (h : MH) : Res (Fl × MEnv) :=
  if x : ∃ n, whlN c b n e h ≠ .bad then whlN c b (Classical.choose x) e h else .bad
noncomputable def whl (L : Option Nat) (c : MEnv → MH → Res Bool) (b : MEnv → MH → Res (Fl × MEnv)) (e : MEnv) (h : MH) : Res (Fl × MEnv) :=
  match L with
  | some n => whlN c b n e h
  | none => whlF c b e h
mutual
noncomputable def evS (L : Option Nat) (G : Callee) : MS → MEnv → MH → Res (Fl × MEnv)
  | .expr a, e, h => (evE G a e h).bind fun _ h1 => .ok (.nx, e) h1
  | .asg t a, e, h => (evE G a e h).bind fun v h1 => (evT G t v e h1).nox.bind fun e1 h2 => .ok (.nx, e1) h2
  | .aug i op a, e, h => match e[i]? with
    | some (some x) => (evE G a e h).bind fun y h1 => (ipV op x y h1).bind fun z h2 => .ok (.nx, e.set i (some z)) h2
    | _ => .bad
  | .augIx a i op b, e, h => (evE G a e h).bind fun o h1 => (evE G i e h1).bind fun j h2 => match o with
    | .ref n => (ixV (.ref n) j h2).bind fun x h3 => (evE G b e h3).bind fun y h4 => (ipV op x y h4).bind fun z h5 => (setIx (.ref n) j z h5).bind fun _ h6 => .ok (.nx, e) h6
    | _ => .bad
  | .ret a, e, h => (evE G a e h).bind fun v h1 => .ok (.rt v, e) h1
  | .retN, e, h => .ok (.rt .non, e) h
  | .ifS c a b, e, h => (evB G c e h).bind fun k h1 => if k then evSs L G a e h1 else evSs L G b e h1
  | .whl c b, e, h => whl L (fun e h => evB G c e h) (fun e h => evSs L G b e h) e h
  | .forS t it b, e, h => (evI G it e h).bind fun s h1 => forL (fun x e h => evT G t x e h) (fun e h => evSs L G b e h) s.stays s.items e h1
  | .brk, e, h => .ok (.bk, e) h
  | .cont, e, h => .ok (.ct, e) h
  | .pass, e, h => .ok (.nx, e) h
  | .raise x _, _, h => .exc x [] h
  | .raiseA _ _, _, _ => .bad
noncomputable def evSs (L : Option Nat) (G : Callee) : List MS → MEnv → MH → Res (Fl × MEnv)
  | [], e, h => .ok (.nx, e) h
  | s :: r, e, h => (evS L G s e h).bind fun fe h1 => match fe.1 with
    | .nx => evSs L G r fe.2 h1
    | _ => .ok fe h1
end
/-- a def: how many parameters, how many slots, whether its own cells are given up at its end, its body -/
structure Fn where
  ps : Nat
  ns : Nat
  cut : Bool
  body : List MS
def finFn (cut : Bool) (h0 : MH) (r : Res (Fl × MEnv)) : Res MV :=
  match r with
  | .ok (.rt v, _) h => if cut then (if thk h0.length h v then .ok (thaw h0.length h v) (h.take h0.length) else .bad) else .ok v h
  | .ok (.nx, _) h => if cut then .ok .non (h.take h0.length) else .ok .non h
  | .ok _ _ => .bad
  | .exc x f h => if cut then (if f.isEmpty then .exc x [] (h.take h0.length) else .bad) else .exc x f h
  | .bad => .bad
noncomputable def runFn (L : Option Nat) (G : Callee) (f : Fn) (vs : List MV) (h : MH) : Res MV :=
  if vs.length = f.ps then finFn f.cut h (evSs L G f.body (vs.map some ++ List.replicate (f.ns - f.ps) none) h) else .bad
noncomputable def callK (L : Option Nat) (T : Nat → Option Fn) : Nat → Callee
  | 0 => fun _ _ _ => .bad
  | k + 1 => fun i vs h => match T i with
    | some f => runFn L (callK L T k) f vs h
    | none => .bad
end MM
set_option Elab.async false
set_option linter.all false
set_option maxRecDepth 100000
/-! M2: what the evaluator's values and cells stand for. -/
namespace MM
open PySem PySem.Spec PyProof.Rows L2
/-- the addresses of the evaluator's cells, and those of lists that a comprehension is just filling -/
structure Trk where
  c : List Addr
  x : List Addr
instance : Membership Addr Trk := ⟨fun t a => a ∈ t.c ∨ a ∈ t.x⟩
def Trk.push (t : Trk) (a : Addr) : Trk := ⟨t.c ++ [a], t.x⟩
theorem Trk.mem_push {t : Trk} {a b : Addr} : a ∈ t.push b ↔ a ∈ t ∨ a = b := by
  show (a ∈ t.c ++ [b] ∨ a ∈ t.x) ↔ (a ∈ t.c ∨ a ∈ t.x) ∨ a = b
  simp
  constructor
  · rintro ((h | h) | h) <;> simp [h]
  · rintro ((h | h) | h) <;> simp [h]
/-- a tuple that is no cell of ours, or one of the module -/
def TupAt (K : PySem.W.Frag) (as : Trk) (H : Hp) (a : Addr) (vs : List V) : Prop :=
  (H a = some (.tup vs) ∧ a ∉ as) ∨
    ∃ (o : Obj) (its : Array Value) (n : Nat), K.lookup a = some o ∧ o.cls = .type "tuple" ∧ o.data = .seq its n ∧ its.size ≤ sizeLine ∧ Vals vs its.toList
mutual
def RV (K : PySem.W.Frag) (as : Trk) (H : Hp) : MV → V → Prop
  | .non, v => v = .non
  | .bl b, v => v = .bl b
  | .int i, v => v = .int i
  | .str x, v => v = .str x
  | .tup xs, v => ∃ a vs, v = .ref a ∧ TupAt K as H a vs ∧ RVs K as H xs vs
  | .lst xs, v => ∃ a vs, v = .ref a ∧ H a = some (.lst vs) ∧ a ∉ as ∧ RVs K as H xs vs
  | .scr xs, v => ∃ a vs, v = .ref a ∧ ((∃ o, H a = some (.frz o (.lst vs)) ∧ a ∉ as) ∨
      ∃ (o : Obj) (its : Array Value) (n : Nat), K.lookup a = some o ∧ o.cls = .type "list" ∧ o.dict = none ∧ o.data = .seq its n ∧ its.size ≤ sizeLine ∧ Vals vs its.toList) ∧ RVs K as H xs vs
  | .ref n, v => ∃ a, as.c[n]? = some a ∧ v = .ref a
  | .atm w, v => v = w
def RVs (K : PySem.W.Frag) (as : Trk) (H : Hp) : List MV → List V → Prop
  | [], vs => vs = []
  | x :: xs, vs => ∃ v r, vs = v :: r ∧ RV K as H x v ∧ RVs K as H xs r
end
def RK (K : PySem.W.Frag) (as : Trk) (H : Hp) : List (Int × MV) → List (Key × V) → Prop
  | [], vs => vs = []
  | (k, x) :: xs, vs => ∃ v r, vs = (Sum.inl k, v) :: r ∧ RV K as H x v ∧ RK K as H xs r
def CellR (K : PySem.W.Frag) (as : Trk) (H : Hp) : MC → Addr → Prop
  | .lst xs, a => ∃ vs, H a = some (.lst vs) ∧ RVs K as H xs vs ∧ fltL xs = true
  | .dct kvs, a => ∃ vs, H a = some (.dK vs) ∧ RK K as H kvs vs ∧ fltL (kvs.map (·.2)) = true
structure Sim (K : PySem.W.Frag) (as : Trk) (H : Hp) (h : MH) : Prop where
  len : as.c.length = h.length
  nd : as.c.Nodup
  cell : ∀ (i : Nat) (c : MC) (a : Addr), h[i]? = some c → as.c[i]? = some a → CellR K as H c a
  hid : ∀ a ∈ as.x, (∃ o, H a = some o) ∧ a ∉ as.c
/-- what is no cell stays -/
structure Wk (as : Trk) (H : Hp) (as' : Trk) (H' : Hp) : Prop where
  pre : ∃ t, as'.c = as.c ++ t
  keep : ∀ a o, H a = some o → a ∉ as → H' a = some o ∧ a ∉ as'
structure Ext (as : Trk) (H : Hp) (as' : Trk) (H' : Hp) : Prop extends Wk as H as' H' where
  hx : as'.x = as.x
  hid : ∀ a ∈ as.x, ∀ o, H a = some o → H' a = some o
theorem Ext.refl {as : Trk} {H : Hp} : Ext as H as H := ⟨⟨⟨[], by simp⟩, fun a o h n => ⟨h, n⟩⟩, rfl, fun a m o h => h⟩
theorem Wk.trans {as as1 as2 : Trk} {H H1 H2 : Hp} (a : Wk as H as1 H1) (b : Wk as1 H1 as2 H2) : Wk as H as2 H2 := by
  refine ⟨?_, fun c o h n => ?_⟩
  · obtain ⟨t, e⟩ := a.pre
    obtain ⟨u, e2⟩ := b.pre
    exact ⟨t ++ u, by rw [e2, e]; simp⟩
  · obtain ⟨h1, n1⟩ := a.keep c o h n
    exact b.keep c o h1 n1
theorem Ext.trans {as as1 as2 : Trk} {H H1 H2 : Hp} (a : Ext as H as1 H1) (b : Ext as1 H1 as2 H2) : Ext as H as2 H2 :=
  ⟨a.toWk.trans b.toWk, b.hx.trans a.hx, fun c m o h => b.hid c (by rw [a.hx]; exact m) o (a.hid c m o h)⟩
section
variable {K : PySem.W.Frag} {as as' : Trk} {H H' : Hp} {h h' : MH}
theorem Wk.at (e : Wk as H as' H') {i : Nat} {a : Addr} (q : as.c[i]? = some a) : as'.c[i]? = some a := by
  obtain ⟨t, e⟩ := e.pre
  rw [e, List.getElem?_append_left (List.getElem?_eq_some_iff.mp q).1]
  exact q
theorem TupAt.wk {a : Addr} {vs : List V} (e : Wk as H as' H') (t : TupAt K as H a vs) : TupAt K as' H' a vs := by
  rcases t with ⟨h, n⟩ | t
  · exact .inl (e.keep a _ h n)
  · exact .inr t
theorem TupAt.sq {a : Addr} {vs : List V} (t : TupAt K as H a vs) : SqT K H a vs := by
  rcases t with ⟨h, _⟩ | t
  · exact .inl (.inl h)
  · exact .inr t
mutual
theorem RV.wk (e : Wk as H as' H') : ∀ (x : MV) (v : V), RV K as H x v → RV K as' H' x v
  | .non, v, h => h
  | .bl _, v, h => h
  | .int _, v, h => h
  | .str _, v, h => h
  | .tup xs, v, h => by
    obtain ⟨a, vs, rfl, t, r⟩ := h
    exact ⟨a, vs, rfl, t.wk e, RVs.wk e xs vs r⟩
  | .lst xs, v, h => by
    obtain ⟨a, vs, rfl, t, n, r⟩ := h
    obtain ⟨t', n'⟩ := e.keep a _ t n
    exact ⟨a, vs, rfl, t', n', RVs.wk e xs vs r⟩
  | .scr xs, v, h => by
    obtain ⟨a, vs, rfl, t, r⟩ := h
    refine ⟨a, vs, rfl, ?_, RVs.wk e xs vs r⟩
    rcases t with ⟨o, t, n⟩ | t
    · exact .inl ⟨o, e.keep a _ t n⟩
    · exact .inr t
  | .ref n, v, h => by
    obtain ⟨a, q, rfl⟩ := h
    exact ⟨a, e.at q, rfl⟩
  | .atm _, v, h => h
theorem RVs.wk (e : Wk as H as' H') : ∀ (xs : List MV) (vs : List V), RVs K as H xs vs → RVs K as' H' xs vs
  | [], vs, h => h
  | x :: xs, vs, h => by
    obtain ⟨v, r, rfl, a, b⟩ := h
    exact ⟨v, r, rfl, RV.wk e x v a, RVs.wk e xs r b⟩
end
theorem RV.ext (e : Ext as H as' H') (x : MV) (v : V) (h : RV K as H x v) : RV K as' H' x v := RV.wk e.toWk x v h
theorem RVs.ext (e : Ext as H as' H') (xs : List MV) (vs : List V) (h : RVs K as H xs vs) : RVs K as' H' xs vs := RVs.wk e.toWk xs vs h
theorem RVs.length : ∀ {xs : List MV} {vs : List V}, RVs K as H xs vs → xs.length = vs.length
  | [], vs, h => by cases (show vs = [] from h); rfl
  | x :: xs, vs, h => by
    obtain ⟨v, r, rfl, a, b⟩ := h
    simp [RVs.length b]
theorem RVs.get : ∀ {xs : List MV} {vs : List V} {i : Nat} {x : MV}, RVs K as H xs vs → xs[i]? = some x → ∃ v, vs[i]? = some v ∧ RV K as H x v
  | [], _, _, _, _, q => by simp at q
  | y :: xs, vs, 0, x, h, q => by
    obtain ⟨v, r, rfl, a, b⟩ := h
    simp at q; subst q
    exact ⟨v, rfl, a⟩
  | y :: xs, vs, i + 1, x, h, q => by
    obtain ⟨v, r, rfl, a, b⟩ := h
    obtain ⟨w, h1, h2⟩ := RVs.get (i := i) b (by simpa using q)
    exact ⟨w, by simpa using h1, h2⟩
theorem RVs.get' : ∀ {xs : List MV} {vs : List V} {i : Nat} {v : V}, RVs K as H xs vs → vs[i]? = some v → ∃ x, xs[i]? = some x ∧ RV K as H x v
  | [], vs, i, _, h, q => by cases (show vs = [] from h); simp at q
  | y :: xs, vs, 0, x, h, q => by
    obtain ⟨v, r, rfl, a, b⟩ := h
    simp at q; subst q
    exact ⟨y, rfl, a⟩
  | y :: xs, vs, i + 1, x, h, q => by
    obtain ⟨v, r, rfl, a, b⟩ := h
    obtain ⟨w, h1, h2⟩ := RVs.get' (i := i) b (by simpa using q)
    exact ⟨w, by simpa using h1, h2⟩
theorem RVs.append : ∀ {xs ys : List MV} {vs ws : List V}, RVs K as H xs vs → RVs K as H ys ws → RVs K as H (xs ++ ys) (vs ++ ws)
  | [], ys, vs, ws, h, h2 => by cases (show vs = [] from h); exact h2
  | x :: xs, ys, vs, ws, h, h2 => by
    obtain ⟨v, r, rfl, a, b⟩ := h
    exact ⟨v, r ++ ws, rfl, a, RVs.append b h2⟩
theorem RVs.one {x : MV} {v : V} (h : RV K as H x v) : RVs K as H [x] [v] := ⟨v, [], rfl, h, rfl⟩
theorem RVs.take : ∀ {xs : List MV} {vs : List V} (n : Nat), RVs K as H xs vs → RVs K as H (xs.take n) (vs.take n)
  | _, _, 0, _ => rfl
  | [], vs, n + 1, h => by cases (show vs = [] from h); rfl
  | x :: xs, vs, n + 1, h => by
    obtain ⟨v, r, rfl, a, b⟩ := h
    exact ⟨v, r.take n, rfl, a, RVs.take n b⟩
theorem RVs.drop : ∀ {xs : List MV} {vs : List V} (n : Nat), RVs K as H xs vs → RVs K as H (xs.drop n) (vs.drop n)
  | _, _, 0, h => h
  | [], vs, n + 1, h => by cases (show vs = [] from h); rfl
  | x :: xs, vs, n + 1, h => by
    obtain ⟨v, r, rfl, a, b⟩ := h
    exact RVs.drop n b
theorem RVs.set {y : MV} {w : V} (hy : RV K as H y w) : ∀ {xs : List MV} {vs : List V} (n : Nat), RVs K as H xs vs → RVs K as H (xs.set n y) (vs.set n w)
  | [], vs, n, h => by cases (show vs = [] from h); rfl
  | x :: xs, vs, 0, h => by
    obtain ⟨v, r, rfl, a, b⟩ := h
    exact ⟨w, r, rfl, hy, b⟩
  | x :: xs, vs, n + 1, h => by
    obtain ⟨v, r, rfl, a, b⟩ := h
    exact ⟨v, r.set n w, rfl, a, RVs.set hy n b⟩
theorem RVs.dropLast {xs : List MV} {vs : List V} (h : RVs K as H xs vs) : RVs K as H xs.dropLast vs.dropLast := by
  rw [List.dropLast_eq_take, List.dropLast_eq_take, h.length]
  exact h.take _
theorem RVs.rep {xs : List MV} {vs : List V} (h : RVs K as H xs vs) : ∀ k : Nat, RVs K as H (List.replicate k xs).flatten (List.replicate k vs).flatten
  | 0 => rfl
  | k + 1 => by
    rw [List.replicate_succ, List.replicate_succ, List.flatten_cons, List.flatten_cons]
    exact h.append (h.rep k)
theorem RK.wk (e : Wk as H as' H') : ∀ (xs : List (Int × MV)) (vs : List (Key × V)), RK K as H xs vs → RK K as' H' xs vs
  | [], vs, h => h
  | (k, x) :: xs, vs, h => by
    obtain ⟨v, r, rfl, a, b⟩ := h
    exact ⟨v, r, rfl, RV.wk e x v a, RK.wk e xs r b⟩
theorem RK.ext (e : Ext as H as' H') (xs : List (Int × MV)) (vs : List (Key × V)) (h : RK K as H xs vs) : RK K as' H' xs vs := RK.wk e.toWk xs vs h
theorem Sim.addr (S : Sim K as H h) {i : Nat} {c : MC} (q : h[i]? = some c) : ∃ a, as.c[i]? = some a ∧ CellR K as H c a := by
  have hi : i < as.c.length := by rw [S.len]; exact (List.getElem?_eq_some_iff.mp q).1
  exact ⟨as.c[i], List.getElem?_eq_getElem hi, S.cell i c _ q (List.getElem?_eq_getElem hi)⟩
theorem Sim.tracked (S : Sim K as H h) {a : Addr} (m : a ∈ as) : ∃ o, H a = some o := by
  rcases m with m | m
  · obtain ⟨i, hi, e⟩ := List.getElem_of_mem m
    have hi' : i < h.length := by rw [← S.len]; exact hi
    have c := S.cell i h[i] a (List.getElem?_eq_getElem hi') (by rw [List.getElem?_eq_getElem hi, e])
    cases hc : h[i] with
    | lst xs => rw [hc] at c; obtain ⟨vs, q, _⟩ := c; exact ⟨_, q⟩
    | dct xs => rw [hc] at c; obtain ⟨vs, q, _⟩ := c; exact ⟨_, q⟩
  · exact (S.hid a m).1
theorem Sim.fresh (S : Sim K as H h) {p : Addr} (n : H p = none) : p ∉ as := fun m => by
  obtain ⟨o, q⟩ := S.tracked m
  rw [n] at q; cases q
/-- a new object that is no cell -/
theorem Ext.new {p : Addr} {o : HO} (S : Sim K as H h) (n : H p = none) : Ext as H as (upd H p o) :=
  ⟨⟨⟨[], by simp⟩, fun a u q m => ⟨by rw [upd_ne (ne_of_none q n)]; exact q, m⟩⟩, rfl, fun a m u q => by rw [upd_ne (ne_of_none q n)]; exact q⟩
theorem CellR.wk {c : MC} {a : Addr} (e : Wk as H as' H') (k : H' a = H a) (r : CellR K as H c a) : CellR K as' H' c a := by
  cases c with
  | lst xs =>
    obtain ⟨vs, q, r, n⟩ := r
    exact ⟨vs, k.trans q, RVs.wk e _ _ r, n⟩
  | dct xs =>
    obtain ⟨vs, q, r, n⟩ := r
    exact ⟨vs, k.trans q, RK.wk e _ _ r, n⟩
theorem CellR.ext {c : MC} {a : Addr} (e : Ext as H as' H') (k : H' a = H a) (r : CellR K as H c a) : CellR K as' H' c a := r.wk e.toWk k
theorem Sim.new {p : Addr} {o : HO} (S : Sim K as H h) (n : H p = none) : Sim K as (upd H p o) h := by
  refine ⟨S.len, S.nd, fun i c a q q2 => ?_, fun a m => ⟨?_, (S.hid a m).2⟩⟩
  · have r := S.cell i c a q q2
    refine r.ext (Ext.new S n) (upd_ne fun e => ?_)
    exact S.fresh n (.inl (e ▸ List.mem_of_getElem? q2))
  · obtain ⟨u, q⟩ := (S.hid a m).1
    exact ⟨u, by rw [upd_ne (ne_of_none q n)]; exact q⟩
theorem RV.tupNew {p : Addr} {xs : List MV} {vs : List V} (S : Sim K as H h) (n : H p = none) (r : RVs K as H xs vs) : RV K as (upd H p (.tup vs)) (.tup xs) (.ref p) :=
  ⟨p, vs, rfl, .inl ⟨upd_same, S.fresh n⟩, RVs.ext (Ext.new S n) _ _ r⟩
theorem RV.lstNew {p : Addr} {xs : List MV} {vs : List V} (S : Sim K as H h) (n : H p = none) (r : RVs K as H xs vs) : RV K as (upd H p (.lst vs)) (.lst xs) (.ref p) :=
  ⟨p, vs, rfl, upd_same, S.fresh n, RVs.ext (Ext.new S n) _ _ r⟩
mutual
theorem RV.more {p : Addr} {ws : List V} (hp : H p = some (.lst ws)) : ∀ (x : MV) (v : V), flt x = true → RV K as H x v → RV K (as.push p) H x v
  | .non, v, _, h => h
  | .bl _, v, _, h => h
  | .int _, v, _, h => h
  | .str _, v, _, h => h
  | .tup xs, v, f, h => by
    obtain ⟨a, vs, rfl, t, r⟩ := h
    refine ⟨a, vs, rfl, ?_, RVs.more hp xs vs (by simpa [flt] using f) r⟩
    rcases t with ⟨t, n⟩ | t
    · refine .inl ⟨t, fun z => ?_⟩
      rcases Trk.mem_push.mp z with z | z
      · exact n z
      · rw [z, hp] at t
        cases t
    · exact .inr t
  | .lst _, _, f, _ => by simp [flt] at f
  | .scr _, _, f, _ => by simp [flt] at f
  | .ref _, _, f, _ => by simp [flt] at f
  | .atm _, _, f, _ => by simp [flt] at f
theorem RVs.more {p : Addr} {ws : List V} (hp : H p = some (.lst ws)) : ∀ (xs : List MV) (vs : List V), fltL xs = true → RVs K as H xs vs → RVs K (as.push p) H xs vs
  | [], vs, _, h => h
  | x :: xs, vs, f, h => by
    obtain ⟨v, r, rfl, a, b⟩ := h
    simp only [fltL, Bool.and_eq_true] at f
    exact ⟨v, r, rfl, RV.more hp x v f.1 a, RVs.more hp xs r f.2 b⟩
end
theorem RK.more {p : Addr} {ws : List V} (hp : H p = some (.lst ws)) : ∀ (xs : List (Int × MV)) (vs : List (Key × V)), fltL (xs.map (·.2)) = true → RK K as H xs vs → RK K (as.push p) H xs vs
  | [], vs, _, h => h
  | (k, x) :: xs, vs, f, h => by
    obtain ⟨v, r, rfl, a, b⟩ := h
    simp only [List.map_cons, fltL, Bool.and_eq_true] at f
    exact ⟨v, r, rfl, RV.more hp x v f.1 a, RK.more hp xs r f.2 b⟩
/-- a list of ours becomes a cell -/
theorem Sim.box {p : Addr} {xs : List MV} {vs : List V} (S : Sim K as H h) (hp : H p = some (.lst vs)) (pn : p ∉ as) (r : RVs K as H xs vs) (nr : fltL xs = true) : Sim K (as.push p) H (h ++ [.lst xs]) := by
  refine ⟨by simp [Trk.push, S.len], ?_, fun i c a q q2 => ?_, fun a m => ⟨(S.hid a m).1, fun z => ?_⟩⟩
  · show (as.c ++ [p]).Nodup
    rw [List.nodup_append]
    refine ⟨S.nd, by simp, fun a ha b hb => ?_⟩
    have : b = p := by simpa using hb
    subst this
    exact fun z => pn (.inl (z ▸ ha))
  · have q2 : (as.c ++ [p])[i]? = some a := q2
    by_cases hi : i < h.length
    · rw [List.getElem?_append_left hi] at q
      rw [List.getElem?_append_left (by rw [S.len]; exact hi)] at q2
      have cr := S.cell i c a q q2
      cases c with
      | lst ys => obtain ⟨us, e, r, f⟩ := cr; exact ⟨us, e, RVs.more hp _ _ f r, f⟩
      | dct ys => obtain ⟨us, e, r, f⟩ := cr; exact ⟨us, e, RK.more hp _ _ f r, f⟩
    · have e : i = h.length := by
        have := (List.getElem?_eq_some_iff.mp q).1
        simp at this; omega
      subst e
      have q' : some (MC.lst xs) = some c := by simpa using q
      cases q'
      rw [← S.len] at q2
      have q2' : some p = some a := by simpa using q2
      cases q2'
      exact ⟨vs, hp, RVs.more hp _ _ nr r, nr⟩
  · rcases List.mem_append.mp (show a ∈ as.c ++ [p] from z) with z | z
    · exact (S.hid a m).2 z
    · exact pn (.inr (List.mem_singleton.mp z ▸ m))
/-- .. seen from before it was made -/
theorem Ext.box {p : Addr} (E : Ext as H as' H') (n : H p = none) : Ext as H (as'.push p) H' := by
  refine ⟨⟨?_, fun a o q m => ?_⟩, E.hx, E.hid⟩
  · obtain ⟨t, e⟩ := E.pre
    exact ⟨t ++ [p], by show as'.c ++ [p] = _; rw [e]; simp⟩
  · obtain ⟨q1, m1⟩ := E.keep a o q m
    refine ⟨q1, fun z => ?_⟩
    rcases Trk.mem_push.mp z with z | z
    · exact m1 z
    · rw [z, n] at q
      cases q
/-- what is new later was not there before -/
theorem Ext.none {p : Addr} (S : Sim K as H h) (E : Ext as H as' H') (S' : Sim K as' H' h') (n : H' p = none) : H p = none := by
  cases q : H p with
  | none => rfl
  | some o =>
    exfalso
    by_cases m : p ∈ as
    · have m' : p ∈ as' := by
        rcases m with m | m
        · obtain ⟨t, e⟩ := E.pre
          exact .inl (by rw [e]; exact List.mem_append_left _ m)
        · exact .inr (by rw [E.hx]; exact m)
      obtain ⟨o', q'⟩ := S'.tracked m'
      rw [n] at q'; cases q'
    · have := (E.keep p o q m).1
      rw [n] at this; cases this
theorem RV.boxNew {p : Addr} (S : Sim K as H h) : RV K (as.push p) H' (.ref h.length) (.ref p) := ⟨p, by rw [← S.len]; show (as.c ++ [p])[as.c.length]? = _; simp, rfl⟩
/-- a cell is written -/
theorem Wk.put {a : Addr} {o : HO} (m : a ∈ as) : Wk as H as (upd H a o) :=
  ⟨⟨[], by simp⟩, fun b u q n => ⟨by rw [upd_ne (fun (z : b = a) => n (by rw [z]; exact m))]; exact q, n⟩⟩
theorem Ext.put {a : Addr} {o : HO} (S : Sim K as H h) (m : a ∈ as.c) : Ext as H as (upd H a o) :=
  ⟨Wk.put (.inl m), rfl, fun b mb u q => by rw [upd_ne (fun (z : b = a) => (S.hid b mb).2 (by rw [z]; exact m))]; exact q⟩
theorem Sim.put {n : Nat} {a : Addr} {xs : List MV} {vs : List V} (S : Sim K as H h) (q : as.c[n]? = some a) (r : RVs K as H xs vs) (nr : fltL xs = true) : Sim K as (upd H a (.lst vs)) (h.set n (.lst xs)) := by
  have m : a ∈ as.c := List.mem_of_getElem? q
  refine ⟨by simp [S.len], S.nd, fun i c b q1 q2 => ?_, fun b mb => ⟨?_, (S.hid b mb).2⟩⟩
  case refine_2 =>
    obtain ⟨u, e⟩ := (S.hid b mb).1
    exact ⟨u, (Ext.put S m).hid b mb u e⟩
  by_cases hi : i = n
  · subst hi
    rw [q] at q2; cases q2
    have hl : i < h.length := by rw [← S.len]; exact (List.getElem?_eq_some_iff.mp q).1
    rw [List.getElem?_set_self hl] at q1; cases q1
    exact ⟨vs, upd_same, RVs.ext (Ext.put S m) _ _ r, nr⟩
  · rw [List.getElem?_set_ne (Ne.symm hi)] at q1
    have hne : b ≠ a := fun z => by
      subst z
      exact hi ((List.getElem?_inj (List.getElem?_eq_some_iff.mp q2).1 S.nd).mp (q2.trans q.symm))
    exact (S.cell i c b q1 q2).ext (Ext.put S m) (upd_ne hne)
/-- a list cell -/
theorem Sim.lst {n : Nat} {xs : List MV} {v : V} (S : Sim K as H h) (q : h[n]? = some (.lst xs)) (r : RV K as H (.ref n) v) :
    ∃ a vs, v = .ref a ∧ as.c[n]? = some a ∧ H a = some (.lst vs) ∧ RVs K as H xs vs ∧ fltL xs = true := by
  obtain ⟨a, e, rfl⟩ := r
  obtain ⟨vs, h1, h2, h3⟩ := S.cell n _ a q e
  exact ⟨a, vs, rfl, e, h1, h2, h3⟩
/-- what a sequence's items are -/
theorem Sim.seq {x : MV} {xs : List MV} {v : V} (S : Sim K as H h) (q : seqOf h x = some xs) (r : RV K as H x v) :
    ∃ a vs, v = .ref a ∧ (SqL K H a vs ∨ SqT K H a vs) ∧ RVs K as H xs vs := by
  cases x with
  | tup ys =>
    cases (show some ys = some xs from q)
    obtain ⟨a, vs, rfl, t, r⟩ := r
    exact ⟨a, vs, rfl, .inr t.sq, r⟩
  | lst ys =>
    cases (show some ys = some xs from q)
    obtain ⟨a, vs, rfl, t, n, r⟩ := r
    exact ⟨a, vs, rfl, .inl (.inl (.inl t)), r⟩
  | scr ys =>
    cases (show some ys = some xs from q)
    obtain ⟨a, vs, rfl, t, r⟩ := r
    refine ⟨a, vs, rfl, .inl ?_, r⟩
    rcases t with ⟨o, t, n⟩ | t
    · exact .inl (.inr ⟨o, t⟩)
    · exact .inr t
  | ref n =>
    have q' : (match h[n]? with | some (.lst xs) => some xs | _ => none) = some xs := q
    split at q'
    · rename_i ys e
      cases q'
      obtain ⟨a, vs, rfl, _, h1, h2, _⟩ := S.lst e r
      exact ⟨a, vs, rfl, .inl (.inl (.inl h1)), h2⟩
    · cases q'
  | non => cases q
  | bl _ => cases q
  | int _ => cases q
  | str _ => cases q
  | atm _ => cases q
theorem Sim.derfL {x : MV} {xs : List MV} {v : V} (S : Sim K as H h) (q : derf h x = .lst xs) (r : RV K as H x v) :
    ∃ a vs, v = .ref a ∧ H a = some (.lst vs) ∧ RVs K as H xs vs := by
  cases x with
  | lst ys =>
    cases (show MV.lst ys = .lst xs from q)
    obtain ⟨a, vs, rfl, t, n, r⟩ := r
    exact ⟨a, vs, rfl, t, r⟩
  | ref n =>
    have q' : (match h[n]? with | some (.lst xs) => MV.lst xs | _ => .ref n) = .lst xs := q
    split at q'
    · rename_i ys e
      cases q'
      obtain ⟨a, vs, rfl, _, h1, h2, _⟩ := S.lst e r
      exact ⟨a, vs, rfl, h1, h2⟩
    · cases q'
  | tup _ => cases q
  | scr _ => cases q
  | non => cases q
  | bl _ => cases q
  | int _ => cases q
  | str _ => cases q
  | atm _ => cases q
/-- a comprehension's list is hidden .. -/
def Trk.hide (t : Trk) (D : Addr) : Trk := ⟨t.c, t.x ++ [D]⟩
theorem Trk.mem_hide {t : Trk} {a b : Addr} : a ∈ t.hide b ↔ a ∈ t ∨ a = b := by
  show (a ∈ t.c ∨ a ∈ t.x ++ [b]) ↔ (a ∈ t.c ∨ a ∈ t.x) ∨ a = b
  simp [or_assoc]
theorem Wk.hide {D : Addr} {o : HO} (n : H D = none) : Wk as H (as.hide D) (upd H D o) :=
  ⟨⟨[], by simp [Trk.hide]⟩, fun a u q m => ⟨by rw [upd_ne (ne_of_none q n)]; exact q, fun z => by
    rcases Trk.mem_hide.mp z with z | z
    · exact m z
    · rw [z, n] at q; cases q⟩⟩
theorem Sim.hide {D : Addr} {o : HO} (S : Sim K as H h) (n : H D = none) : Sim K (as.hide D) (upd H D o) h := by
  have f := S.fresh n
  refine ⟨S.len, S.nd, fun i c a q q2 => ?_, fun a m => ?_⟩
  · exact (S.cell i c a q q2).wk (Wk.hide n) (upd_ne fun e => f (.inl (e ▸ List.mem_of_getElem? q2)))
  · rcases List.mem_append.mp (show a ∈ as.x ++ [D] from m) with m | m
    · obtain ⟨⟨u, q⟩, z⟩ := S.hid a m
      exact ⟨⟨u, by rw [upd_ne (ne_of_none q n)]; exact q⟩, z⟩
    · cases List.mem_singleton.mp m
      exact ⟨⟨o, upd_same⟩, fun z => f (.inl z)⟩
theorem Wk.unhide {D : Addr} : Wk (as.hide D) H as H := ⟨⟨[], by simp [Trk.hide]⟩, fun a u q m => ⟨q, fun z => m (Trk.mem_hide.mpr (.inl z))⟩⟩
theorem Sim.unhide {D : Addr} (S : Sim K (as.hide D) H h) : Sim K as H h ∧ D ∉ as.c := by
  refine ⟨⟨S.len, S.nd, fun i c a q q2 => (S.cell i c a q q2).wk Wk.unhide rfl, fun a m => S.hid a (List.mem_append_left _ m)⟩, (S.hid D (List.mem_append_right _ (List.mem_singleton.mpr rfl))).2⟩
theorem Sim.hput {D : Addr} {o : HO} (S : Sim K (as.hide D) H h) : Sim K (as.hide D) (upd H D o) h := by
  have m : D ∈ as.hide D := Trk.mem_hide.mpr (.inr rfl)
  refine ⟨S.len, S.nd, fun i c a q q2 => (S.cell i c a q q2).wk (Wk.put m) (upd_ne fun e => S.unhide.2 (e ▸ List.mem_of_getElem? q2)), fun a z => ?_⟩
  obtain ⟨⟨u, q⟩, k⟩ := S.hid a z
  by_cases e : a = D
  · exact ⟨⟨o, by rw [e]; exact upd_same⟩, k⟩
  · exact ⟨⟨u, by rw [upd_ne e]; exact q⟩, k⟩
end
end MM
set_option Elab.async false
set_option linter.all false
set_option maxRecDepth 100000
/-! M3: operators on values. -/
namespace MM
open PySem PySem.Spec PyProof.Rows L2
/-! ### data -/
theorem strFine_ok {x : Str} (h : strFine x = true) : PySem.PyData.strOk x = true := by
  unfold strFine at h
  unfold PySem.PyData.strOk
  rw [← Array.all_toList]
  rw [List.all_eq_true] at h ⊢
  intro c hc
  have := h c hc
  have h2 : c ≤ 1114111 := Nat.le_of_ble_eq_true this
  exact decide_eq_true (by omega)
mutual
theorem shp_pd : ∀ (n : Nat) (x : MV), shp n x = true → (toPD x).canLay0 = true ∧ (toPD x).depth ≤ n
  | n, .non, _ => by simp [toPD, PyData.canLay0, PyData.depth]
  | n, .bl b, _ => by simp [toPD, PyData.canLay0, PyData.depth]
  | n, .int i, _ => by simp [toPD, PyData.canLay0, PyData.depth]
  | n, .str x, h => by
    simp only [toPD, PyData.canLay0, PyData.depth]
    exact ⟨strFine_ok (by simpa [shp] using h), Nat.zero_le _⟩
  | n + 1, .tup xs, h => by
    have := shpL_pd n xs (by simpa [shp] using h)
    simp only [toPD, PyData.canLay0, PyData.depth]
    exact ⟨this.1, by omega⟩
  | n + 1, .lst xs, h => by
    have := shpL_pd n xs (by simpa [shp] using h)
    simp only [toPD, PyData.canLay0, PyData.depth]
    exact ⟨this.1, by omega⟩
  | 0, .tup xs, h => by simp [shp] at h
  | 0, .lst xs, h => by simp [shp] at h
  | 0, .scr xs, h => by simp [shp] at h
  | n + 1, .scr xs, h => by simp [shp] at h
  | 0, .ref _, h => by simp [shp] at h
  | n + 1, .ref _, h => by simp [shp] at h
  | 0, .atm _, h => by simp [shp] at h
  | n + 1, .atm _, h => by simp [shp] at h
theorem shpL_pd : ∀ (n : Nat) (xs : List MV), shpL n xs = true → PyData.canLayAll0 (toPDs xs) = true ∧ PyData.depthAll (toPDs xs) ≤ n
  | n, [], _ => by simp [toPDs, PyData.canLayAll0, PyData.depthAll]
  | n, x :: xs, h => by
    simp only [shpL, Bool.and_eq_true] at h
    have h1 := shp_pd n x h.1
    have h2 := shpL_pd n xs h.2
    simp only [toPDs, PyData.canLayAll0, PyData.depthAll, Bool.and_eq_true]
    exact ⟨⟨h1.1, h2.1⟩, by omega⟩
end
theorem shp_shaped {n : Nat} {x : MV} (h : shp n x = true) (hn : n ≤ 64) : SeqAt.shaped (toPD x) = true := by
  have := shp_pd n x h
  unfold SeqAt.shaped
  rw [this.1, decide_eq_true (by omega)]
  rfl
mutual
theorem eqv_pd : ∀ (x y : MV) (n m : Nat), shp n x = true → shp m y = true → PyData.eqv (toPD x) (toPD y) = eqv x y
  | .non, y, n, m, hx, hy => by
    cases y <;> simp [toPD, eqv, PyData.eqv] <;> cases m <;> simp [shp] at hy
  | .bl a, y, n, m, hx, hy => by
    cases y <;> simp [toPD, eqv, PyData.eqv] <;> first | (cases m <;> simp [shp] at hy; done) | (rw [Bool.beq_eq_decide_eq])
  | .int a, y, n, m, hx, hy => by
    cases y <;> simp [toPD, eqv, PyData.eqv] <;> first | (cases m <;> simp [shp] at hy; done) | (rw [Bool.beq_eq_decide_eq])
  | .str a, y, n, m, hx, hy => by
    cases y <;> simp [toPD, eqv, PyData.eqv] <;> first | (cases m <;> simp [shp] at hy; done) | (rw [strEq_dec, Bool.beq_eq_decide_eq])
  | .tup xs, y, n, m, hx, hy => by
    cases n with
    | zero => simp [shp] at hx
    | succ n =>
      cases y with
      | tup ys =>
        cases m with
        | zero => simp [shp] at hy
        | succ m =>
          simp only [toPD, eqv, PyData.eqv]
          exact eqvL_pd xs ys n m (by simpa [shp] using hx) (by simpa [shp] using hy)
      | _ => first | (simp [toPD, eqv, PyData.eqv]; done) | (cases m <;> simp [shp] at hy)
  | .lst xs, y, n, m, hx, hy => by
    cases n with
    | zero => simp [shp] at hx
    | succ n =>
      cases y with
      | lst ys =>
        cases m with
        | zero => simp [shp] at hy
        | succ m =>
          simp only [toPD, eqv, PyData.eqv]
          exact eqvL_pd xs ys n m (by simpa [shp] using hx) (by simpa [shp] using hy)
      | _ => first | (simp [toPD, eqv, PyData.eqv]; done) | (cases m <;> simp [shp] at hy)
  | .scr xs, y, n, m, hx, hy => by cases n <;> simp [shp] at hx
  | .ref _, y, n, m, hx, hy => by cases n <;> simp [shp] at hx
  | .atm _, y, n, m, hx, hy => by cases n <;> simp [shp] at hx
theorem eqvL_pd : ∀ (xs ys : List MV) (n m : Nat), shpL n xs = true → shpL m ys = true → PyData.eqvAll (toPDs xs) (toPDs ys) = eqvL xs ys
  | [], [], _, _, _, _ => by simp [toPDs, eqvL, PyData.eqvAll]
  | [], _ :: _, _, _, _, _ => by simp [toPDs, eqvL, PyData.eqvAll]
  | _ :: _, [], _, _, _, _ => by simp [toPDs, eqvL, PyData.eqvAll]
  | x :: xs, y :: ys, n, m, hx, hy => by
    simp only [shpL, Bool.and_eq_true] at hx hy
    simp only [toPDs, eqvL, PyData.eqvAll]
    rw [eqv_pd x y n m hx.1 hy.1, eqvL_pd xs ys n m hx.2 hy.2]
end
section
variable {K : PySem.W.Frag} {as as' : Trk} {H H' : Hp} {h h' : MH}
mutual
theorem RV.dp : ∀ (n : Nat) (x : MV) (v : V), shp n x = true → RV K as H x v → Dp K H v (toPD x)
  | n, .non, v, _, r => by cases (show v = .non from r); exact .non
  | n, .bl b, v, _, r => by cases (show v = .bl b from r); exact .bl b
  | n, .int i, v, _, r => by cases (show v = .int i from r); exact .int i
  | n, .str x, v, _, r => by cases (show v = .str x from r); exact .str x
  | n + 1, .tup xs, v, h, r => by
    obtain ⟨a, vs, rfl, t, r⟩ := r
    exact .tup t.sq (RVs.dp n xs vs (by simpa [shp] using h) r)
  | n + 1, .lst xs, v, h, r => by
    obtain ⟨a, vs, rfl, t, _, r⟩ := r
    exact .lst (.inl (.inl t)) (RVs.dp n xs vs (by simpa [shp] using h) r)
  | 0, .tup xs, _, h, _ => by simp [shp] at h
  | 0, .lst xs, _, h, _ => by simp [shp] at h
  | 0, .scr xs, _, h, _ => by simp [shp] at h
  | n + 1, .scr xs, _, h, _ => by simp [shp] at h
  | 0, .ref _, _, h, _ => by simp [shp] at h
  | n + 1, .ref _, _, h, _ => by simp [shp] at h
  | 0, .atm _, _, h, _ => by simp [shp] at h
  | n + 1, .atm _, _, h, _ => by simp [shp] at h
theorem RVs.dp : ∀ (n : Nat) (xs : List MV) (vs : List V), shpL n xs = true → RVs K as H xs vs → DpAll K H vs (toPDs xs)
  | n, [], vs, _, r => by cases (show vs = [] from r); exact .nil
  | n, x :: xs, vs, h, r => by
    obtain ⟨v, r, rfl, a, b⟩ := r
    simp only [shpL, Bool.and_eq_true] at h
    exact .cons (RV.dp n x v h.1 a) (RVs.dp n xs r h.2 b)
end
/-- the value, its own cell read, as data -/
theorem Sim.dp {n : Nat} {x : MV} {v : V} (S : Sim K as H h) (q : shp n (derf h x) = true) (r : RV K as H x v) : Dp K H v (toPD (derf h x)) := by
  cases hx : derf h x with
  | lst xs =>
    obtain ⟨a, vs, rfl, t, r'⟩ := S.derfL hx r
    cases n with
    | zero => rw [hx] at q; simp [shp] at q
    | succ n => rw [hx] at q; exact .lst (.inl (.inl t)) (RVs.dp n xs vs (by simpa [shp] using q) r')
  | _ =>
    rw [← hx]
    have e : derf h x = x := by
      cases x with
      | ref m =>
        have q' : derf h (.ref m) = (match h[m]? with | some (.lst xs) => MV.lst xs | _ => .ref m) := rfl
        rw [q'] at hx ⊢
        split at hx
        · cases hx
        · rfl
      | _ => rfl
    rw [e] at q ⊢
    exact RV.dp n x v q r
theorem Vals_intsOf : ∀ {xs : List MV} {ns : List Int} {vs : List V}, intsOf xs = some ns → RVs K as H xs vs → vs = ns.map V.int
  | [], ns, vs, q, r => by
    cases (show vs = [] from r)
    cases (show some [] = some ns from q)
    rfl
  | x :: xs, ns, vs, q, r => by
    obtain ⟨v, w, rfl, a, b⟩ := r
    cases x with
    | int i =>
      have q' : (intsOf xs).map (i :: ·) = some ns := q
      cases e : intsOf xs with
      | none => rw [e] at q'; cases q'
      | some ms =>
        rw [e] at q'
        cases q'
        cases (show v = .int i from a)
        rw [Vals_intsOf e b]
        rfl
    | _ => cases q
theorem Vals_blsOf : ∀ {xs : List MV} {ns : List Bool} {vs : List V}, blsOf xs = some ns → RVs K as H xs vs → vs = ns.map V.bl
  | [], ns, vs, q, r => by
    cases (show vs = [] from r)
    cases (show some [] = some ns from q)
    rfl
  | x :: xs, ns, vs, q, r => by
    obtain ⟨v, w, rfl, a, b⟩ := r
    cases x with
    | bl i =>
      have q' : (blsOf xs).map (i :: ·) = some ns := q
      cases e : blsOf xs with
      | none => rw [e] at q'; cases q'
      | some ms =>
        rw [e] at q'
        cases q'
        cases (show v = .bl i from a)
        rw [Vals_blsOf e b]
        rfl
    | _ => cases q
end
/-! ### what is wanted of an outcome -/
def RF (K : PySem.W.Frag) (as : Trk) (H : Hp) : List (Str × MV) → List (Str × V) → Prop
  | [], vs => vs = []
  | (k, x) :: xs, vs => ∃ v r, vs = (k, v) :: r ∧ RV K as H x v ∧ RF K as H xs r
def XR (K : PySem.W.Frag) (mg : Str → Option Value) (as : Trk) (H : Hp) (x : Str) (f : List (Str × MV)) (cls : Value) (d : Option Addr) : Prop :=
  ∃ C, mg x = some (.ref C) ∧ cls = .ref C ∧ ((f = [] ∧ d = none) ∨ (f ≠ [] ∧ ∃ a fs, d = some a ∧ H a = some (.xd fs) ∧ RF K as H f fs))
def Post {α β : Type} (K : PySem.W.Frag) (mg : Str → Option Value) (W : WX) (R : Trk → Hp → α → β → Prop) (as : Trk) (H : Hp) (σ : L2.St) (Q : β → Hp → Prop) : Res α → Prop
  | .ok a h' => ∀ as' H' b, Ext as H as' H' → Sim K as' H' h' → R as' H' a b → Q b H'
  | .exc x f h' => ∀ as' H' cls d, Ext as H as' H' → Sim K as' H' h' → XR K mg as' H' x f cls d → W cls d σ H'
  | .bad => False
theorem Post.bind {α β α' β' : Type} {K : PySem.W.Frag} {mg : Str → Option Value} {W : WX} {R1 : Trk → Hp → α → β → Prop} {R2 : Trk → Hp → α' → β' → Prop} {as : Trk} {H : Hp} {σ : L2.St} {Q1 : β → Hp → Prop} {Q : β' → Hp → Prop} {r : Res α} {k : α → MH → Res α'}
    (p : Post K mg W R2 as H σ Q (r.bind k))
    (hk : ∀ a h' as' H' b, Ext as H as' H' → Sim K as' H' h' → R1 as' H' a b → Post K mg W R2 as' H' σ Q (k a h') → Q1 b H') : Post K mg W R1 as H σ Q1 r := by
  cases r with
  | ok a h' =>
    intro as' H' b E S rr
    refine hk a h' as' H' b E S rr ?_
    have p' : Post K mg W R2 as H σ Q (k a h') := p
    revert p'
    cases k a h' with
    | ok a2 h2 => intro p' as2 H2 b2 E2 S2 r2; exact p' as2 H2 b2 (E.trans E2) S2 r2
    | exc x f h2 => intro p' as2 H2 cls d E2 S2 r2; exact p' as2 H2 cls d (E.trans E2) S2 r2
    | bad => intro p'; exact p'
  | exc x f h' => exact p
  | bad => exact p
theorem Post.okIf {α β : Type} {K : PySem.W.Frag} {mg : Str → Option Value} {W : WX} {R : Trk → Hp → α → β → Prop} {as : Trk} {H : Hp} {σ : L2.St} {Q : β → Hp → Prop} {c : Bool} {a : α} {h : MH} (p : Post K mg W R as H σ Q (okIf c a h)) :
    c = true ∧ Post K mg W R as H σ Q (.ok a h) := by
  cases c with
  | true => exact ⟨rfl, p⟩
  | false => exact False.elim p
structure EnvR (K : PySem.W.Frag) (as : Trk) (H : Hp) (e : MEnv) (σ : L2.St) : Prop where
  len : e.length = σ.length
  at_ : ∀ (i : Nat) x, e[i]? = some (some x) → ∃ v, σ[i]? = some (some v) ∧ RV K as H x v
theorem EnvR.ext {K : PySem.W.Frag} {as as' : Trk} {H H' : Hp} {e : MEnv} {σ : L2.St} (E : Ext as H as' H') (r : EnvR K as H e σ) : EnvR K as' H' e σ :=
  ⟨r.len, fun i x q => let ⟨v, h1, h2⟩ := r.at_ i x q; ⟨v, h1, RV.ext E x v h2⟩⟩
theorem EnvR.set {K : PySem.W.Frag} {as : Trk} {H : Hp} {e : MEnv} {σ : L2.St} (r : EnvR K as H e σ) {x : MV} {v : V} (h : RV K as H x v) (i : Nat) : EnvR K as H (e.set i (some x)) (σ.set i (some v)) := by
  refine ⟨by simp [r.len], fun j y q => ?_⟩
  by_cases hj : i = j
  · subst hj
    have hl : i < e.length := by
      have := (List.getElem?_eq_some_iff.mp q).1
      simpa using this
    rw [List.getElem?_set_self hl] at q
    cases q
    exact ⟨v, List.getElem?_set_self (by rw [← r.len]; exact hl), h⟩
  · rw [List.getElem?_set_ne hj] at q
    rw [List.getElem?_set_ne hj]
    exact r.at_ j y q
theorem EnvR.wipe {K : PySem.W.Frag} {as : Trk} {H : Hp} {e : MEnv} {σ : L2.St} (r : EnvR K as H e σ) : ∀ vs : List Nat, EnvR K as H (wipeM e vs) (wipe σ vs)
  | [] => r
  | i :: vs => by
    have r1 := r.wipe vs
    refine ⟨by simp only [wipeM, L2.wipe, List.length_set]; exact r1.len, fun j y q => ?_⟩
    simp only [wipeM] at q
    simp only [L2.wipe]
    by_cases hj : i = j
    · subst hj
      have hl : i < (wipeM e vs).length := by
        have := (List.getElem?_eq_some_iff.mp q).1
        simpa using this
      rw [List.getElem?_set_self hl] at q
      cases q
    · rw [List.getElem?_set_ne hj] at q
      rw [List.getElem?_set_ne hj]
      exact r1.at_ j y q
/-! ### two-place operators -/
/-- by an operation on our values that leaves the cells as they are -/
def rM (X : Cx) (g : MV → MV → MH → Res MV) : R2 := fun x y H Q => ∃ as h mx my z, Sim X.K as H h ∧ RV X.K as H mx x ∧ RV X.K as H my y ∧ g mx my h = .ok z h ∧
  ∀ as' H' v, Ext as H as' H' → Sim X.K as' H' h → RV X.K as' H' z v → Q v H'
section
variable {X : Cx}
theorem log2_bits (a : Int) : Builtin.Int.intBits a ≤ a.natAbs.log2 + 1 := by
  unfold Builtin.Int.intBits
  split <;> omega
theorem mulOk_x {a b : Int} (h : mulOk a b = true) : CMulX a b := by
  have h' := Nat.le_of_ble_eq_true h
  have h1 := log2_bits a
  have h2 := log2_bits b
  unfold CMulX
  omega
theorem divOk_x {a b : Int} (h : divOk a b = true) : CDivP a b := by
  unfold divOk at h
  rw [Bool.and_eq_true, Bool.or_eq_true, decide_eq_true_eq] at h
  obtain ⟨h0, h⟩ := h
  refine ⟨h0, ?_⟩
  unfold Builtin.divisionGoesByPylong
  simp only
  have hb : (b == 0) = false := by simp; omega
  simp only [hb, Bool.false_eq_true, if_false, Bool.and_eq_false_iff, decide_eq_false_iff_not]
  rcases h with h | h
  · have h' := Nat.le_of_ble_eq_true h
    left; omega
  · have h' := Nat.le_of_ble_eq_true h
    right
    split <;> omega
theorem op_addM : OpR X (binaryOp .Add) (rM X (binV .add)) := by
  intro pins s σ H x y v u Q I rx ry q
  obtain ⟨as, h, mx, my, z, S, r1, r2, e, q⟩ := q
  cases mx with
  | int a =>
    cases my with
    | int b =>
      cases (show Res.ok (MV.int (a + b)) h = .ok z h from e)
      exact op_add pins s σ H x y v u Q I rx ry ⟨a, b, r1, r2, q as H _ .refl S rfl⟩
    | _ => cases e
  | str a =>
    cases my with
    | str b =>
      have e' : okIf (lenOk (a.cps.size + b.cps.size)) (MV.str (a ++ b)) h = .ok z h := e
      cases hl : lenOk (a.cps.size + b.cps.size) with
      | false => rw [hl] at e'; cases e'
      | true =>
        rw [hl] at e'
        cases e'
        have hl' := Nat.le_of_ble_eq_true hl
        refine op_add_str pins s σ H x y v u Q I rx ry ⟨a, b, r1, r2, ?_, q as H _ .refl S rfl⟩
        rw [sizeLine_eq]
        show a.cps.size + b.cps.size ≤ _
        omega
    | _ => cases e
  | tup xs =>
    cases my with
    | tup ys =>
      have e' : okIf (lenOk (xs.length + ys.length)) (MV.tup (xs ++ ys)) h = .ok z h := e
      cases hl : lenOk (xs.length + ys.length) with
      | false => rw [hl] at e'; cases e'
      | true =>
        rw [hl] at e'
        cases e'
        have hl' := Nat.le_of_ble_eq_true hl
        obtain ⟨a, vs, rfl, t1, w1⟩ := r1
        obtain ⟨b, ws, rfl, t2, w2⟩ := r2
        refine op_catA pins s σ H _ _ v u Q I rx ry ⟨a, b, vs, ws, rfl, rfl, t1.sq, t2.sq, ?_, fun e0 => ?_, fun e0 e1 => ?_, fun e0 e1 p np => ?_⟩
        · rw [sizeLine_eq, ← w1.length, ← w2.length]; omega
        · refine q as H _ .refl S ⟨b, ws, rfl, t2, ?_⟩
          have : xs = [] := by
            have := w1.length
            rw [e0] at this
            exact List.length_eq_zero_iff.mp this
          rw [this]
          exact w2
        · refine q as H _ .refl S ⟨a, vs, rfl, t1, ?_⟩
          have : ys = [] := by
            have := w2.length
            rw [e1] at this
            exact List.length_eq_zero_iff.mp this
          rw [this, List.append_nil]
          exact w1
        · exact q as _ _ (Ext.new S np) (S.new np) (RV.tupNew S np (w1.append w2))
    | _ => cases e
  | _ => cases my <;> cases e
theorem op_subM : OpR X (binaryOp .Sub) (rM X (binV .sub)) := by
  intro pins s σ H x y v u Q I rx ry q
  obtain ⟨as, h, mx, my, z, S, r1, r2, e, q⟩ := q
  cases mx with
  | int a =>
    cases my with
    | int b =>
      cases (show Res.ok (MV.int (a - b)) h = .ok z h from e)
      exact op_sub pins s σ H x y v u Q I rx ry ⟨a, b, r1, r2, q as H _ .refl S rfl⟩
    | _ => cases e
  | _ => cases my <;> cases e
theorem op_mulM : OpR X (binaryOp .Mult) (rM X (binV .mul)) := by
  intro pins s σ H x y v u Q I rx ry q
  obtain ⟨as, h, mx, my, z, S, r1, r2, e, q⟩ := q
  cases mx with
  | int a =>
    cases my with
    | int b =>
      have e' : okIf (mulOk a b) (MV.int (a * b)) h = .ok z h := e
      cases hl : mulOk a b with
      | false => rw [hl] at e'; cases e'
      | true =>
        rw [hl] at e'
        cases e'
        exact op_mulX pins s σ H x y v u Q I rx ry ⟨a, b, r1, r2, mulOk_x hl, q as H _ .refl S rfl⟩
    | _ => cases e
  | tup xs =>
    cases my with
    | int k =>
      have e' : okIf (!xs.isEmpty && Nat.ble xs.length 1000 && decide (1 ≤ k) && decide (k ≤ 1000)) (MV.tup (List.replicate k.toNat xs).flatten) h = .ok z h := e
      cases hl : (!xs.isEmpty && Nat.ble xs.length 1000 && decide (1 ≤ k) && decide (k ≤ 1000)) with
      | false => rw [hl] at e'; cases e'
      | true =>
        rw [hl] at e'
        cases e'
        simp only [Bool.and_eq_true, decide_eq_true_eq] at hl
        obtain ⟨⟨⟨l1, l2⟩, l3⟩, l4⟩ := hl
        have l2' := Nat.le_of_ble_eq_true l2
        obtain ⟨a, vs, rfl, t1, w1⟩ := r1
        by_cases k1 : k = 1
        · subst k1
          refine op_repT1 pins s σ H _ _ v u Q I rx ry ⟨a, vs, rfl, r2, t1.sq, ?_⟩
          have e1 : (List.replicate (1 : Int).toNat xs).flatten = xs := by simp
          rw [e1] at q
          exact q as H _ .refl S ⟨a, vs, rfl, t1, w1⟩
        have l3 : 2 ≤ k := by omega
        refine op_repT pins s σ H _ _ v u Q I rx ry ⟨a, k, vs, rfl, r2, t1.sq, ?_, l3, l4, by rw [← w1.length]; exact l2', fun p np => ?_⟩
        · intro e0
          have := w1.length
          rw [e0] at this
          rw [List.length_eq_zero_iff.mp this] at l1
          cases l1
        · exact q as _ _ (Ext.new S np) (S.new np) (RV.tupNew S np (w1.rep _))
    | _ => cases e
  | _ => cases my <;> cases e
theorem op_fdivM : OpR X (binaryOp .FloorDiv) (rM X (binV .fdiv)) := by
  intro pins s σ H x y v u Q I rx ry q
  obtain ⟨as, h, mx, my, z, S, r1, r2, e, q⟩ := q
  cases mx with
  | int a =>
    cases my with
    | int b =>
      have e' : okIf (divOk a b) (MV.int (a / b)) h = .ok z h := e
      cases hl : divOk a b with
      | false => rw [hl] at e'; cases e'
      | true =>
        rw [hl] at e'
        cases e'
        have hc := divOk_x hl
        have h0 : 0 < b := hc.1
        have ho : OpR X (binaryOp .FloorDiv) (rI CDivP fun i j => .int (i / j)) := opI fun i j _ _ _ _ _ hc q => by
          have h1 : (0 : Int) < j := hc.1
          exact floordiv_int (by omega) (by rw [Int.fdiv_eq_ediv_of_nonneg i (by omega)]; exact q) (.inl hc.2)
        exact ho pins s σ H x y v u Q I rx ry ⟨a, b, r1, r2, hc, q as H _ .refl S rfl⟩
    | _ => cases e
  | _ => cases my <;> cases e
theorem op_modM : OpR X (binaryOp .Mod) (rM X (binV .mod)) := by
  intro pins s σ H x y v u Q I rx ry q
  obtain ⟨as, h, mx, my, z, S, r1, r2, e, q⟩ := q
  cases mx with
  | int a =>
    cases my with
    | int b =>
      have e' : okIf (decide (0 < b)) (MV.int (a % b)) h = .ok z h := e
      by_cases hl : 0 < b
      · rw [decide_eq_true hl] at e'
        cases e'
        exact op_mod pins s σ H x y v u Q I rx ry ⟨a, b, r1, r2, hl, q as H _ .refl S rfl⟩
      · rw [decide_eq_false hl] at e'; cases e'
    | _ => cases e
  | _ => cases my <;> cases e
theorem op_powM : OpR X (binaryOp .Pow) (rM X (binV .pow)) := by
  intro pins s σ H x y v u Q I rx ry q
  obtain ⟨as, h, mx, my, z, S, r1, r2, e, q⟩ := q
  cases mx with
  | int a =>
    cases my with
    | int b =>
      have e' : okIf (powOk a b) (MV.int (a ^ b.toNat)) h = .ok z h := e
      cases hl : powOk a b with
      | false => rw [hl] at e'; cases e'
      | true =>
        rw [hl] at e'
        cases e'
        unfold powOk at hl
        simp only [Bool.and_eq_true, decide_eq_true_eq] at hl
        obtain ⟨⟨l1, l2⟩, l3⟩ := hl
        have l3' := Nat.le_of_ble_eq_true l3
        refine op_pow pins s σ H x y v u Q I rx ry ⟨a, b, r1, r2, ⟨l1, by omega, ?_⟩, q as H _ .refl S rfl⟩
        by_cases h0 : a.natAbs = 0
        · omega
        · exact (Nat.log2_lt h0).mp (by omega)
    | _ => cases e
  | _ => cases my <;> cases e
/-! ### comparisons -/
theorem room65 {k : Nat} (hr : Room k X.A) : X.A.units + 65 < cLine := by have := hr.un; omega
theorem cmp_eqM (hu : X.A.units + 65 < cLine) : OpR X (compareOp .Eq) (rM X (cmpV .eq)) := by
  intro pins s σ H x y v u Q I rx ry q
  obtain ⟨as, h, mx, my, z, S, r1, r2, e, q⟩ := q
  have e' : okIf (shp 60 (derf h mx) && shp 60 (derf h my)) (.bl (eqv (derf h mx) (derf h my))) h = .ok z h := e
  cases hl : (shp 60 (derf h mx) && shp 60 (derf h my)) with
  | false => rw [hl] at e'; cases e'
  | true =>
    rw [hl] at e'
    cases e'
    rw [Bool.and_eq_true] at hl
    refine op_eqD (by omega) pins s σ H x y v u Q I rx ry ⟨_, _, S.dp hl.1 r1, S.dp hl.2 r2, shp_shaped hl.1 (by decide), shp_shaped hl.2 (by decide), ?_⟩
    rw [eqv_pd _ _ _ _ hl.1 hl.2]
    exact q as H _ .refl S rfl
theorem cmp_neM (hu : X.A.units + 65 < cLine) : OpR X (compareOp .NotEq) (rM X (cmpV .ne)) := by
  intro pins s σ H x y v u Q I rx ry q
  obtain ⟨as, h, mx, my, z, S, r1, r2, e, q⟩ := q
  have e' : okIf (shp 60 (derf h mx) && shp 60 (derf h my)) (.bl (!eqv (derf h mx) (derf h my))) h = .ok z h := e
  cases hl : (shp 60 (derf h mx) && shp 60 (derf h my)) with
  | false => rw [hl] at e'; cases e'
  | true =>
    rw [hl] at e'
    cases e'
    rw [Bool.and_eq_true] at hl
    refine op_neD (by omega) pins s σ H x y v u Q I rx ry ⟨_, _, S.dp hl.1 r1, S.dp hl.2 r2, shp_shaped hl.1 (by decide), shp_shaped hl.2 (by decide), ?_⟩
    rw [eqv_pd _ _ _ _ hl.1 hl.2]
    exact q as H _ .refl S rfl
theorem cmp_ltM (hu : X.A.units + 65 < cLine) : OpR X (compareOp .Lt) (rM X (cmpV .lt)) := by
  intro pins s σ H x y v u Q I rx ry q
  obtain ⟨as, h, mx, my, z, S, r1, r2, e, q⟩ := q
  cases mx with
  | int a =>
    cases my with
    | int b =>
      cases (show Res.ok (MV.bl (decide (a < b))) h = .ok z h from e)
      exact op_lt pins s σ H x y v u Q I rx ry ⟨a, b, r1, r2, q as H _ .refl S rfl⟩
    | _ => cases e
  | tup xs =>
    cases my with
    | tup ys =>
      have e' : (match intsOf xs, intsOf ys with | some a, some b => Res.ok (MV.bl (lexLtI a b)) h | _, _ => .bad) = .ok z h := e
      cases ha : intsOf xs with
      | none => rw [ha] at e'; cases e'
      | some ns =>
        cases hb : intsOf ys with
        | none => rw [ha, hb] at e'; cases e'
        | some ms =>
          rw [ha, hb] at e'
          cases e'
          obtain ⟨a, vs, rfl, t1, w1⟩ := r1
          obtain ⟨b, ws, rfl, t2, w2⟩ := r2
          refine op_ltT (by omega) pins s σ H _ _ v u Q I rx ry ⟨a, b, ns, ms, rfl, rfl, ?_, ?_, q as H _ .refl S rfl⟩
          · rw [← Vals_intsOf ha w1]; exact t1.sq
          · rw [← Vals_intsOf hb w2]; exact t2.sq
    | _ => cases e
  | _ => cases my <;> cases e
theorem cmp_leM : OpR X (compareOp .LtE) (rM X (cmpV .le)) := by
  intro pins s σ H x y v u Q I rx ry q
  obtain ⟨as, h, mx, my, z, S, r1, r2, e, q⟩ := q
  cases mx with
  | int a =>
    cases my with
    | int b =>
      cases (show Res.ok (MV.bl (decide (a ≤ b))) h = .ok z h from e)
      exact op_le pins s σ H x y v u Q I rx ry ⟨a, b, r1, r2, q as H _ .refl S rfl⟩
    | _ => cases e
  | _ => cases my <;> cases e
theorem cmp_gtM : OpR X (compareOp .Gt) (rM X (cmpV .gt)) := by
  intro pins s σ H x y v u Q I rx ry q
  obtain ⟨as, h, mx, my, z, S, r1, r2, e, q⟩ := q
  cases mx with
  | int a =>
    cases my with
    | int b =>
      cases (show Res.ok (MV.bl (decide (b < a))) h = .ok z h from e)
      exact op_gt pins s σ H x y v u Q I rx ry ⟨a, b, r1, r2, q as H _ .refl S rfl⟩
    | _ => cases e
  | _ => cases my <;> cases e
theorem cmp_geM : OpR X (compareOp .GtE) (rM X (cmpV .ge)) := by
  intro pins s σ H x y v u Q I rx ry q
  obtain ⟨as, h, mx, my, z, S, r1, r2, e, q⟩ := q
  cases mx with
  | int a =>
    cases my with
    | int b =>
      cases (show Res.ok (MV.bl (decide (b ≤ a))) h = .ok z h from e)
      exact op_ge pins s σ H x y v u Q I rx ry ⟨a, b, r1, r2, q as H _ .refl S rfl⟩
    | _ => cases e
  | _ => cases my <;> cases e
theorem inL_pd (x : MV) (n : Nat) (hx : shp n x = true) : ∀ (ys : List MV) (m : Nat), shpL m ys = true → ((toPDs ys).any fun z => PyData.eqv z (toPD x)) = inL x ys
  | [], _, _ => rfl
  | y :: ys, m, h => by
    simp only [shpL, Bool.and_eq_true] at h
    rw [toPDs, List.any_cons, inL, inL_pd x n hx ys m h.2, eqv_pd y x m n h.1 hx]
theorem in_seqM {neg : Bool} (hu : X.A.units + 65 < cLine) {pins : List (Addr × Obj)} {s : Shared} {σ : L2.St} {H : Hp} {x y : V} {v u : Value} {Q : VK} (I : Inv X pins σ H s) (rx : RelV x v) (ry : RelV y u)
    {as : Trk} {h : MH} {mx my : MV} {ys : List MV} (S : Sim X.K as H h) (r1 : RV X.K as H mx x) (r2 : RV X.K as H my y) (hs : seqOf h my = some ys) (h1 : shp 50 mx = true) (h2 : shpL 50 ys = true)
    (q : Q (.bl (if neg then !inL mx ys else inL mx ys)) H) : wpAny (model X.prog X.w) X.A (compareOp (if neg then .NotIn else .In) v u) (EP X pins σ Q) X.xe s := by
  obtain ⟨a, vs, rfl, sq, w⟩ := S.seq hs r2
  have hd := RV.dp 50 mx x h1 r1
  have hds := RVs.dp 50 ys vs h2 w
  obtain ⟨as1, d1⟩ := Dp.reads I _ x v hd rx
  have hsh : SeqAt.shaped (.list (toPDs ys)) = true := by
    have := shpL_pd 50 ys h2
    unfold SeqAt.shaped
    simp only [PyData.canLay0, PyData.depth]
    rw [this.1, Bool.true_and]
    exact decide_eq_true (by omega)
  have hl := shpL_pd 50 ys h2
  have room := room_in_shaped (xs := toPDs ys) (shp_shaped h1 (by decide)) hu
  rcases sq with sq | sq
  · obtain ⟨bs, d2⟩ := Dp.reads I (.list (toPDs ys)) (.ref a) u (.lst sq hds) ry
    cases neg with
    | false => exact SeqAt.in_list_reads d2 d1 hl.1 (SeqAt.canLay_of_shaped (shp_shaped h1 (by decide))) room ⟨.bl _, H, I, rfl, by rw [inL_pd mx 50 h1 ys 50 h2]; exact q⟩
    | true => exact SeqAt.notIn_list_reads d2 d1 hl.1 (SeqAt.canLay_of_shaped (shp_shaped h1 (by decide))) room ⟨.bl _, H, I, rfl, by rw [inL_pd mx 50 h1 ys 50 h2]; exact q⟩
  · obtain ⟨bs, d2⟩ := Dp.reads I (.tuple (toPDs ys)) (.ref a) u (.tup sq hds) ry
    cases neg with
    | false => exact SeqAt.in_tuple_reads d2 d1 hl.1 (SeqAt.canLay_of_shaped (shp_shaped h1 (by decide))) room ⟨.bl _, H, I, rfl, by rw [inL_pd mx 50 h1 ys 50 h2]; exact q⟩
    | true => exact SeqAt.notIn_tuple_reads d2 d1 hl.1 (SeqAt.canLay_of_shaped (shp_shaped h1 (by decide))) room ⟨.bl _, H, I, rfl, by rw [inL_pd mx 50 h1 ys 50 h2]; exact q⟩
theorem cmp_inM (hu : X.A.units + 65 < cLine) : OpR X (compareOp .In) (rM X (cmpV .isIn)) := by
  intro pins s σ H x y v u Q I rx ry q
  obtain ⟨as, h, mx, my, z, S, r1, r2, e, q⟩ := q
  have e' : (match seqOf h my with | some ys => okIf (shp 50 mx && shpL 50 ys) (MV.bl (inL mx ys)) h | none => .bad) = .ok z h := e
  cases hs : seqOf h my with
  | none => rw [hs] at e'; cases e'
  | some ys =>
    rw [hs] at e'
    cases hl : (shp 50 mx && shpL 50 ys) with
    | false => simp only [hl] at e'; cases e'
    | true =>
      simp only [hl] at e'
      cases e'
      rw [Bool.and_eq_true] at hl
      exact in_seqM (neg := false) hu I rx ry S r1 r2 hs hl.1 hl.2 (q as H _ .refl S rfl)
theorem cmp_notInM (hu : X.A.units + 65 < cLine) : OpR X (compareOp .NotIn) (rM X (cmpV .notIn)) := by
  intro pins s σ H x y v u Q I rx ry q
  obtain ⟨as, h, mx, my, z, S, r1, r2, e, q⟩ := q
  have e' : (match seqOf h my with | some ys => okIf (shp 50 mx && shpL 50 ys) (MV.bl (!inL mx ys)) h | none => .bad) = .ok z h := e
  cases hs : seqOf h my with
  | none => rw [hs] at e'; cases e'
  | some ys =>
    rw [hs] at e'
    cases hl : (shp 50 mx && shpL 50 ys) with
    | false => simp only [hl] at e'; cases e'
    | true =>
      simp only [hl] at e'
      cases e'
      rw [Bool.and_eq_true] at hl
      exact in_seqM (neg := true) hu I rx ry S r1 r2 hs hl.1 hl.2 (q as H _ .refl S rfl)
end
end MM
set_option Elab.async false
set_option linter.all false
set_option maxRecDepth 100000
/-! M4: built-ins on values. -/
namespace MM
open PySem PySem.Spec PyProof.Rows L2
/-- by a built-in on our values that leaves the cells as they are -/
def rC (X : Cx) (g : List MV → MH → Res MV) : List V → Hp → VK → Prop := fun xs H Q => ∃ as h ms z, Sim X.K as H h ∧ RVs X.K as H ms xs ∧ g ms h = .ok z h ∧
  ∀ as' H' v, Ext as H as' H' → Sim X.K as' H' h → RV X.K as' H' z v → Q v H'
section
variable {X : Cx}
theorem RVs.one_inv {K : PySem.W.Frag} {as : Trk} {H : Hp} {x : MV} {vs : List V} (r : RVs K as H [x] vs) : ∃ v, vs = [v] ∧ RV K as H x v := by
  obtain ⟨v, w, rfl, a, b⟩ := r
  cases (show w = [] from b)
  exact ⟨v, rfl, a⟩
theorem RVs.two_inv {K : PySem.W.Frag} {as : Trk} {H : Hp} {x y : MV} {vs : List V} (r : RVs K as H [x, y] vs) : ∃ v w, vs = [v, w] ∧ RV K as H x v ∧ RV K as H y w := by
  obtain ⟨v, w, rfl, a, b⟩ := r
  obtain ⟨u, rfl, c⟩ := b.one_inv
  exact ⟨v, u, rfl, a, c⟩
theorem lstOf_derf {h : MH} {x : MV} {xs : List MV} (q : lstOf h x = some xs) : derf h x = .lst xs := by
  unfold lstOf at q
  split at q
  · rename_i ys e
    cases q
    exact e
  · cases q
theorem cr_sumT (hc : X.calm = true) : CallR X (.builtin "sum") (fun vs H Q => ∃ (a : Addr) (ns : List Int), vs = [V.ref a] ∧ SqT X.K H a (ns.map V.int) ∧ Q (.int ns.sum) H) := by
  intro pins s σ H vs us Q I r h
  obtain ⟨a, ns, rfl, hs, q⟩ := h
  obtain ⟨its, rv, ht, _⟩ := I.tuple hs
  rw [Vals.ref1 r]
  have hi := rv.ints
  obtain ⟨xs, e⟩ := hi.allInts.items
  have hn : numsOf (intItems xs).toList = ns := by rw [← e]; exact hi.numsOf
  rw [nums_intItems] at hn
  rw [e] at ht
  refine PySem.W.ktm_sumG (I.ok.hd hc) (show s.heap.IsTuple a (intItems xs) from ht) fun h' tk t' hk => ⟨.int _, H, I.kept hk, ⟨_, rfl⟩, ?_⟩
  rw [preSum_eq, List.take_of_length_le (by simp), hn]
  exact q
theorem maxI_spec : ∀ (ns : List Int) (n : Int), maxI n ns ∈ n :: ns ∧ ∀ y ∈ n :: ns, y ≤ maxI n ns
  | [], n => by simp [maxI]
  | b :: r, n => by
    obtain ⟨g, hg⟩ : ∃ g, g = (if b > n then b else n) := ⟨_, rfl⟩
    have hb : n ≤ g ∧ b ≤ g ∧ (g = b ∨ g = n) := by rw [hg]; split <;> omega
    have ih := maxI_spec r g
    simp only [maxI]
    rw [← hg]
    refine ⟨?_, fun y hy => ?_⟩
    · rcases List.mem_cons.mp ih.1 with e | e
      · rw [e]; rcases hb.2.2 with e | e <;> rw [e] <;> simp
      · simp [e]
    · have h1 := ih.2 _ List.mem_cons_self
      rcases List.mem_cons.mp hy with rfl | hy
      · omega
      · rcases List.mem_cons.mp hy with rfl | hy
        · omega
        · exact ih.2 y (List.mem_cons_of_mem _ hy)
theorem minI_spec : ∀ (ns : List Int) (n : Int), minI n ns ∈ n :: ns ∧ ∀ y ∈ n :: ns, minI n ns ≤ y
  | [], n => by simp [minI]
  | b :: r, n => by
    obtain ⟨g, hg⟩ : ∃ g, g = (if b < n then b else n) := ⟨_, rfl⟩
    have hb : g ≤ n ∧ g ≤ b ∧ (g = b ∨ g = n) := by rw [hg]; split <;> omega
    have ih := minI_spec r g
    simp only [minI]
    rw [← hg]
    refine ⟨?_, fun y hy => ?_⟩
    · rcases List.mem_cons.mp ih.1 with e | e
      · rw [e]; rcases hb.2.2 with e | e <;> rw [e] <;> simp
      · simp [e]
    · have h1 := ih.2 _ List.mem_cons_self
      rcases List.mem_cons.mp hy with rfl | hy
      · omega
      · rcases List.mem_cons.mp hy with rfl | hy
        · omega
        · exact ih.2 y (List.mem_cons_of_mem _ hy)
def biId : BI → Value
  | .len => .builtin "len" | .sum => .builtin "sum" | .abs => .builtin "abs" | .max2 => .builtin "max" | .min2 => .builtin "min" | .maxL => .builtin "max" | .minL => .builtin "min"
  | .all => .builtin "all" | .any => .builtin "any" | .tup => .type "tuple" | .toInt => .type "int"
theorem call_lenM : CallR X (.builtin "len") (rC X (biV .len)) := by
  intro pins s σ H vs us Q I rs q
  obtain ⟨as, h, ms, z, S, r, e, q⟩ := q
  cases ms with
  | nil => cases e
  | cons x ms =>
    cases ms with
    | cons y ms => cases x <;> cases e
    | nil =>
      obtain ⟨v, rfl, rv⟩ := r.one_inv
      have seqCase : ∀ xs, seqOf h x = some xs → Res.ok (MV.int xs.length) h = .ok z h → wpAny (model X.prog X.w) X.A (call (.builtin "len") us) (EP X pins σ Q) X.xe s := fun xs hx e => by
        cases e
        obtain ⟨a, ws, rfl, sq, w⟩ := S.seq hx rv
        refine call_len_seq pins s σ H _ us Q I rs ⟨a, ws, rfl, sq, ?_⟩
        rw [← w.length]
        exact q as H _ .refl S rfl
      cases x with
      | str x =>
        have e' : okIf (Nat.ble x.cps.size sizeLine) (MV.int x.cps.size) h = .ok z h := e
        cases hl : Nat.ble x.cps.size sizeLine with
        | false => rw [hl] at e'; cases e'
        | true =>
          rw [hl] at e'
          cases e'
          exact call_len_str pins s σ H _ us Q I rs ⟨x, by rw [show v = .str x from rv], Nat.le_of_ble_eq_true hl, q as H _ .refl S rfl⟩
      | tup xs => exact seqCase xs rfl e
      | lst xs => exact seqCase xs rfl e
      | scr xs => exact seqCase xs rfl e
      | ref n =>
        have e' : (match seqOf h (.ref n) with | some xs => Res.ok (MV.int xs.length) h | none => .bad) = .ok z h := e
        cases hx : seqOf h (.ref n) with
        | none => rw [hx] at e'; cases e'
        | some xs => rw [hx] at e'; exact seqCase xs hx e'
      | _ => cases e
theorem call_sumM (hc : X.calm = true) : CallR X (.builtin "sum") (rC X (biV .sum)) := by
  intro pins s σ H vs us Q I rs q
  obtain ⟨as, h, ms, z, S, r, e, q⟩ := q
  cases ms with
  | nil => cases e
  | cons x ms =>
    cases ms with
    | cons y ms => cases e
    | nil =>
      obtain ⟨v, rfl, rv⟩ := r.one_inv
      have e' : (match (seqOf h x).bind intsOf with | some ns => Res.ok (MV.int ns.sum) h | none => .bad) = .ok z h := e
      cases hx : seqOf h x with
      | none => rw [hx] at e'; cases e'
      | some xs =>
        rw [hx] at e'
        cases hn : intsOf xs with
        | none => simp [hn] at e'
        | some ns =>
          simp only [Option.bind_some, hn] at e'
          cases e'
          obtain ⟨a, ws, rfl, sq, w⟩ := S.seq hx rv
          have ew := Vals_intsOf hn w
          subst ew
          rcases sq with sq | sq
          · exact cr_sum hc pins s σ H _ us Q I rs ⟨a, ns, rfl, sq, q as H _ .refl S rfl⟩
          · exact cr_sumT hc pins s σ H _ us Q I rs ⟨a, ns, rfl, sq, q as H _ .refl S rfl⟩
theorem call_absM : CallR X (.builtin "abs") (rC X (biV .abs)) := by
  intro pins s σ H vs us Q I rs q
  obtain ⟨as, h, ms, z, S, r, e, q⟩ := q
  cases ms with
  | nil => cases e
  | cons x ms =>
    cases ms with
    | cons y ms => cases x <;> cases e
    | nil =>
      obtain ⟨v, rfl, rv⟩ := r.one_inv
      cases x with
      | int i =>
        cases (show Res.ok (MV.int (if i < 0 then -i else i)) h = .ok z h from e)
        exact call_abs pins s σ H _ us Q I rs ⟨i, by rw [show v = .int i from rv], q as H _ .refl S rfl⟩
      | _ => cases e
theorem call_max2M (hc : X.calm = true) : CallR X (.builtin "max") (rC X (biV .max2)) := by
  intro pins s σ H vs us Q I rs q
  obtain ⟨as, h, ms, z, S, r, e, q⟩ := q
  rcases ms with _ | ⟨x, _ | ⟨y, _ | ⟨w, ms⟩⟩⟩
  · cases e
  · cases x <;> cases e
  · obtain ⟨v, w, rfl, rv, rw'⟩ := r.two_inv
    cases x with
    | int i =>
      cases y with
      | int j =>
        cases (show Res.ok (MV.int (if j > i then j else i)) h = .ok z h from e)
        exact call_max2 hc pins s σ H _ us Q I rs ⟨i, j, by rw [show v = .int i from rv, show w = .int j from rw'], q as H _ .refl S rfl⟩
      | _ => cases e
    | _ => cases y <;> cases e
  · cases x <;> cases y <;> cases e
theorem call_min2M (hc : X.calm = true) : CallR X (.builtin "min") (rC X (biV .min2)) := by
  intro pins s σ H vs us Q I rs q
  obtain ⟨as, h, ms, z, S, r, e, q⟩ := q
  rcases ms with _ | ⟨x, _ | ⟨y, _ | ⟨w, ms⟩⟩⟩
  · cases e
  · cases x <;> cases e
  · obtain ⟨v, w, rfl, rv, rw'⟩ := r.two_inv
    cases x with
    | int i =>
      cases y with
      | int j =>
        cases (show Res.ok (MV.int (if j < i then j else i)) h = .ok z h from e)
        exact call_min2 hc pins s σ H _ us Q I rs ⟨i, j, by rw [show v = .int i from rv, show w = .int j from rw'], q as H _ .refl S rfl⟩
      | _ => cases e
    | _ => cases y <;> cases e
  · cases x <;> cases y <;> cases e
theorem call_maxLM (hc : X.calm = true) : CallR X (.builtin "max") (rC X (biV .maxL)) := by
  intro pins s σ H vs us Q I rs q
  obtain ⟨as, h, ms, z, S, r, e, q⟩ := q
  rcases ms with _ | ⟨x, _ | ⟨y, ms⟩⟩
  · cases e
  · obtain ⟨v, rfl, rv⟩ := r.one_inv
    have e' : (match (lstOf h x).bind intsOf with | some (n :: ns) => Res.ok (MV.int (maxI n ns)) h | _ => .bad) = .ok z h := e
    cases hx : lstOf h x with
    | none => rw [hx] at e'; cases e'
    | some xs =>
      rw [hx] at e'
      cases hn : intsOf xs with
      | none => simp [hn] at e'
      | some ns =>
        cases ns with
        | nil => simp [hn] at e'
        | cons n ns =>
          simp only [Option.bind_some, hn] at e'
          cases e'
          obtain ⟨a, ws, rfl, sq, w⟩ := S.derfL (lstOf_derf hx) rv
          have ew := Vals_intsOf hn w
          subst ew
          refine cr_max hc pins s σ H _ us Q I rs ⟨a, n :: ns, rfl, .inl (.inl sq), by simp, fun m hm hle => ?_⟩
          have sp := maxI_spec ns n
          have : m = maxI n ns := Int.le_antisymm (sp.2 m hm) (hle _ sp.1)
          subst this
          exact q as H _ .refl S rfl
  · cases e
theorem call_minLM (hc : X.calm = true) : CallR X (.builtin "min") (rC X (biV .minL)) := by
  intro pins s σ H vs us Q I rs q
  obtain ⟨as, h, ms, z, S, r, e, q⟩ := q
  rcases ms with _ | ⟨x, _ | ⟨y, ms⟩⟩
  · cases e
  · obtain ⟨v, rfl, rv⟩ := r.one_inv
    have e' : (match (lstOf h x).bind intsOf with | some (n :: ns) => Res.ok (MV.int (minI n ns)) h | _ => .bad) = .ok z h := e
    cases hx : lstOf h x with
    | none => rw [hx] at e'; cases e'
    | some xs =>
      rw [hx] at e'
      cases hn : intsOf xs with
      | none => simp [hn] at e'
      | some ns =>
        cases ns with
        | nil => simp [hn] at e'
        | cons n ns =>
          simp only [Option.bind_some, hn] at e'
          cases e'
          obtain ⟨a, ws, rfl, sq, w⟩ := S.derfL (lstOf_derf hx) rv
          have ew := Vals_intsOf hn w
          subst ew
          refine cr_min hc pins s σ H _ us Q I rs ⟨a, n :: ns, rfl, .inl (.inl sq), by simp, fun m hm hle => ?_⟩
          have sp := minI_spec ns n
          have : m = minI n ns := Int.le_antisymm (hle _ sp.1) (sp.2 m hm)
          subst this
          exact q as H _ .refl S rfl
  · cases e
theorem call_allM (hc : X.calm = true) : CallR X (.builtin "all") (rC X (biV .all)) := by
  intro pins s σ H vs us Q I rs q
  obtain ⟨as, h, ms, z, S, r, e, q⟩ := q
  rcases ms with _ | ⟨x, _ | ⟨y, ms⟩⟩
  · cases e
  · obtain ⟨v, rfl, rv⟩ := r.one_inv
    have e' : (match (lstOf h x).bind blsOf with | some bs => Res.ok (MV.bl (bs.all id)) h | none => .bad) = .ok z h := e
    cases hx : lstOf h x with
    | none => rw [hx] at e'; cases e'
    | some xs =>
      rw [hx] at e'
      cases hn : blsOf xs with
      | none => simp [hn] at e'
      | some ns =>
        simp only [Option.bind_some, hn] at e'
        cases e'
        obtain ⟨a, ws, rfl, sq, w⟩ := S.derfL (lstOf_derf hx) rv
        have ew := Vals_blsOf hn w
        subst ew
        exact cr_all hc pins s σ H _ us Q I rs ⟨a, ns, rfl, .inl (.inl sq), q as H _ .refl S rfl⟩
  · cases e
theorem call_anyM (hc : X.calm = true) : CallR X (.builtin "any") (rC X (biV .any)) := by
  intro pins s σ H vs us Q I rs q
  obtain ⟨as, h, ms, z, S, r, e, q⟩ := q
  rcases ms with _ | ⟨x, _ | ⟨y, ms⟩⟩
  · cases e
  · obtain ⟨v, rfl, rv⟩ := r.one_inv
    have e' : (match (lstOf h x).bind blsOf with | some bs => Res.ok (MV.bl (bs.any id)) h | none => .bad) = .ok z h := e
    cases hx : lstOf h x with
    | none => rw [hx] at e'; cases e'
    | some xs =>
      rw [hx] at e'
      cases hn : blsOf xs with
      | none => simp [hn] at e'
      | some ns =>
        simp only [Option.bind_some, hn] at e'
        cases e'
        obtain ⟨a, ws, rfl, sq, w⟩ := S.derfL (lstOf_derf hx) rv
        have ew := Vals_blsOf hn w
        subst ew
        exact cr_any hc pins s σ H _ us Q I rs ⟨a, ns, rfl, .inl (.inl sq), q as H _ .refl S rfl⟩
  · cases e
theorem call_tupM : CallR X (.type "tuple") (rC X (biV .tup)) := by
  intro pins s σ H vs us Q I rs q
  obtain ⟨as, h, ms, z, S, r, e, q⟩ := q
  rcases ms with _ | ⟨x, _ | ⟨y, ms⟩⟩
  · cases e
  · obtain ⟨v, rfl, rv⟩ := r.one_inv
    have e' : (match seqOf h x with | some xs => Res.ok (MV.tup xs) h | none => .bad) = .ok z h := e
    cases hx : seqOf h x with
    | none => rw [hx] at e'; cases e'
    | some xs =>
      rw [hx] at e'
      cases e'
      obtain ⟨a, ws, rfl, sq, w⟩ := S.seq hx rv
      refine call_tuple_of pins s σ H _ us Q I rs ⟨a, ws, rfl, ?_⟩
      rcases sq with sq | sq
      · exact .inl ⟨sq, fun l hl => q as _ _ (Ext.new S hl) (S.new hl) (RV.tupNew S hl w)⟩
      · refine .inr ⟨sq, ?_⟩
        cases x with
        | tup ys =>
          cases (show some ys = some xs from hx)
          exact q as H _ .refl S rv
        | lst ys =>
          obtain ⟨b, vs, e, t, n, _⟩ := rv
          cases e
          rcases sq with (sq | ⟨o, sq⟩) | ⟨o, its, n', k, c, _⟩
          · rw [t] at sq; cases sq
          · rw [t] at sq; cases sq
          · -- a tracked list is no tuple of the module
            exfalso
            obtain ⟨_, its', n2, _, e2⟩ := I.hok a _ t
            have e3 := I.kIn a o k
            rw [e2] at e3; cases e3
            simp at c
        | scr ys =>
          obtain ⟨b, vs, e, t, _⟩ := rv
          cases e
          exfalso
          have hl : SqL X.K H a vs := by
            rcases t with ⟨o, t, n⟩ | t
            · exact .inl (.inr ⟨o, t⟩)
            · exact .inr t
          obtain ⟨_, _, p1, _⟩ := I.list hl
          obtain ⟨_, _, p2, _⟩ := I.tuple sq
          obtain ⟨o, n, e1, c1, _⟩ := p1
          obtain ⟨o2, e2, c2, _⟩ := p2
          rw [e1] at e2; cases e2
          rw [c1] at c2; simp at c2
        | ref n =>
          exfalso
          have q' : (match h[n]? with | some (.lst xs) => some xs | _ => none) = some xs := hx
          split at q'
          · rename_i ys e
            obtain ⟨b, vs, eb, _, h1, _⟩ := S.lst e rv
            cases eb
            obtain ⟨_, _, p1, _⟩ := I.list (show SqL X.K H a vs from .inl (.inl h1))
            obtain ⟨_, _, p2, _⟩ := I.tuple sq
            obtain ⟨o, n, e1, c1, _⟩ := p1
            obtain ⟨o2, e2, c2, _⟩ := p2
            rw [e1] at e2; cases e2
            rw [c1] at c2; simp at c2
          · cases q'
        | _ => cases hx
  · cases e
theorem call_toIntM : CallR X (.type "int") (rC X (biV .toInt)) := by
  intro pins s σ H vs us Q I rs q
  obtain ⟨as, h, ms, z, S, r, e, q⟩ := q
  rcases ms with _ | ⟨x, _ | ⟨y, ms⟩⟩
  · cases e
  · obtain ⟨v, rfl, rv⟩ := r.one_inv
    cases x with
    | int i =>
      cases (show Res.ok (MV.int i) h = .ok z h from e)
      exact call_int1 pins s σ H _ us Q I rs (.inl ⟨i, by rw [show v = .int i from rv], q as H _ .refl S rfl⟩)
    | bl b =>
      cases (show Res.ok (MV.int (if b then 1 else 0)) h = .ok z h from e)
      exact call_int1 pins s σ H _ us Q I rs (.inr ⟨b, by rw [show v = .bl b from rv], q as H _ .refl S rfl⟩)
    | _ => cases e
  · cases x <;> cases e
theorem call_biM (hc : X.calm = true) : ∀ b : BI, CallR X (biId b) (rC X (biV b))
  | .len => call_lenM
  | .sum => call_sumM hc
  | .abs => call_absM
  | .max2 => call_max2M hc
  | .min2 => call_min2M hc
  | .maxL => call_maxLM hc
  | .minL => call_minLM hc
  | .all => call_allM hc
  | .any => call_anyM hc
  | .tup => call_tupM
  | .toInt => call_toIntM
/-- our built-ins leave the cells, and raise nothing -/
theorem biV_ok (b : BI) (vs : List MV) (h : MH) : (∃ z, biV b vs h = .ok z h) ∨ biV b vs h = .bad := by
  unfold biV
  split <;> first
    | exact .inl ⟨_, rfl⟩
    | exact .inr rfl
    | (unfold okIf; split <;> first | exact .inl ⟨_, rfl⟩ | exact .inr rfl)
    | (split <;> first | exact .inl ⟨_, rfl⟩ | exact .inr rfl)
theorem binV_ok (op : BO) (x y : MV) (h : MH) : (∃ z, binV op x y h = .ok z h) ∨ binV op x y h = .bad := by
  unfold binV
  split <;> first
    | exact .inl ⟨_, rfl⟩
    | exact .inr rfl
    | (unfold okIf; split <;> first | exact .inl ⟨_, rfl⟩ | exact .inr rfl)
theorem cmpV_ok (op : CO) (x y : MV) (h : MH) : (∃ z, cmpV op x y h = .ok (.bl z) h) ∨ cmpV op x y h = .bad := by
  unfold cmpV
  split <;> first
    | (unfold okIf; split <;> first | exact .inl ⟨_, rfl⟩ | exact .inr rfl)
    | (split <;> first
      | exact .inl ⟨_, rfl⟩ | exact .inr rfl
      | (unfold okIf; split <;> first | exact .inl ⟨_, rfl⟩ | exact .inr rfl)
      | (split <;> first | exact .inl ⟨_, rfl⟩ | exact .inr rfl))
end
end MM
set_option Elab.async false
set_option linter.all false
set_option maxRecDepth 100000
/-! M5: what loops go over. -/
namespace MM
open PySem PySem.Spec PyProof.Rows L2
/-- a list or a tuple at an address -/
inductive SK where | l (a : Addr) | t (a : Addr)
def SK.ad : SK → Addr | .l a => a | .t a => a
def SK.At (K : PySem.W.Frag) (H : Hp) (k : SK) (xs : List V) : Prop := match k with | .l a => SqL K H a xs | .t a => SqT K H a xs
def SK.It (h : Heap) (it : Addr) (k : SK) (i : Nat) : Prop := match k with | .l a => h.IsListIter it a i | .t a => h.IsTupleIter it a i
def SK.Ob (h : Heap) (k : SK) (items : Array Value) : Prop := match k with | .l a => h.IsList a items | .t a => h.IsTuple a items
theorem SK.draws {prog : Program} {w : World} {A : Around} (hh : A.handled = none) (it : Addr) (k : SK) (hne : k.ad ≠ it) (items : Array Value) :
    Draws prog w A it [it, k.ad] items.size (fun i v => items[i]? = some v) (fun i h => k.It h it i ∧ k.Ob h items) := by
  cases k with
  | l a => exact Draws.list hh it a hne items
  | t a => exact Draws.tuple hh it a hne items
theorem SK.it_at {h h' : Heap} {it : Addr} {k : SK} {i : Nat} (x : k.It h it i) (hk : ∀ o, h.get? it = some o → h'.get? it = some o) : k.It h' it i := by
  cases k with
  | l a => exact Heap.IsListIter.at x hk
  | t a => exact Heap.IsTupleIter.at x hk
theorem SK.it_obj {h : Heap} {it : Addr} {k : SK} {i : Nat} (x : k.It h it i) : ∃ o, h.get? it = some o ∧ ∀ v, o.data ≠ .cell v := by
  cases k with
  | l a => obtain ⟨o, e, c, d⟩ := x; exact ⟨o, e, fun v z => by rw [d] at z; cases z⟩
  | t a => obtain ⟨o, e, c, d⟩ := x; exact ⟨o, e, fun v z => by rw [d] at z; cases z⟩
section
variable {X : Cx} {pins : List (Addr × Obj)} {σ : L2.St} {H : Hp} {s : Shared}
theorem Inv_sk {k : SK} {xs : List V} (I : Inv X pins σ H s) (h : k.At X.K H xs) : ∃ its : List Value, Vals xs its ∧ k.Ob s.heap its.toArray ∧ xs.length ≤ sizeLine ∧ ∃ o, s.heap.get? k.ad = some o := by
  cases k with
  | l a =>
    obtain ⟨its, r, p, z⟩ := I.list (show SqL X.K H a xs from h)
    obtain ⟨o, n, e, _⟩ := id p
    exact ⟨its, r, p.isList, z, o, e⟩
  | t a =>
    obtain ⟨its, r, p, z⟩ := I.tuple (show SqT X.K H a xs from h)
    obtain ⟨o, e, _⟩ := id p
    exact ⟨its, r, p, z, o, e⟩
theorem Inv_sk_inj {k : SK} {xs ys : List V} (I : Inv X pins σ H s) (h : k.At X.K H xs) (h' : k.At X.K H ys) : xs = ys := by
  cases k with
  | l a => exact I.list_inj (show SqL X.K H a xs from h) h'
  | t a => exact I.tuple_inj (show SqT X.K H a xs from h) h'
/-- iter(list or tuple): one rule -/
def iSeqG (K : PySem.W.Frag) (tl : TE) : TI := fun σ H R => tl σ H fun x H1 => ∃ a, x = .ref a ∧ (((∃ xs, SqL K H1 a xs) ∧ R (Itl K a) H1) ∨ ((∃ xs, SqT K H1 a xs) ∧ R (Itt K a) H1))
theorem pi_seqG {tg l : Expr} {tl : TE} (hl : PE X l tl) : PI X tg l (iSeqG X.K tl) := by
  refine ⟨fun pins s σ H R I h => ?_⟩
  refine thn (hl.run pins s σ H _ I h) fun v s1 ⟨x, H1, I1, r1, q1⟩ => ?_
  obtain ⟨a, e, q1⟩ := q1
  subst e
  cases r1
  rcases q1 with ⟨⟨xs, hq⟩, q⟩ | ⟨⟨xs, hq⟩, q⟩
  · obtain ⟨its, rv, p, hz⟩ := I1.list hq
    refine wpAny_pyIter_list p.isList ?_
    refine ⟨s1.heap.objs.size, [s1.heap.objs.size], _, _, H1, rfl, I1.kept (t' := s1.toks) fun b o e => Heap.get?_push_of_some _ e, turn_list a _, ⟨_, Heap.get?_push_size _ rfl, rfl, rfl⟩, fun b hb => ?_, q⟩
    have e : b = s1.heap.objs.size := by simpa using hb
    rw [e]
    exact I1.fpOk (Nat.le_refl _) (I1.hok.fresh (Nat.le_refl _))
  · obtain ⟨its, rv, p, hz⟩ := I1.tuple hq
    refine wpAny_pyIter_tuple (show s1.heap.IsTuple a its.toArray from p) ?_
    refine ⟨s1.heap.objs.size, [s1.heap.objs.size], _, _, H1, rfl, I1.kept (t' := s1.toks) fun b o e => Heap.get?_push_of_some _ e, turn_tuple a _, ⟨_, Heap.get?_push_size _ rfl, rfl, rfl⟩, fun b hb => ?_, q⟩
    have e : b = s1.heap.objs.size := by simpa using hb
    rw [e]
    exact I1.fpOk (Nat.le_refl _) (I1.hok.fresh (Nat.le_refl _))
/-! ### enumerate -/
def IteG (K : PySem.W.Frag) (k : SK) : L2.It :=
  ⟨fun i H => ∃ (xs : List V) (x : V), k.At K H xs ∧ xs[i]? = some x, fun i H v H' => ∃ T x, v = .ref T ∧ H T = none ∧ H' = upd H T (.tup [.int (i : Nat), x]) ∧ ∀ xs, k.At K H xs → xs[i]? = some x, fun i H => ∃ xs : List V, k.At K H xs ∧ xs.length ≤ i⟩
theorem turn_enumG {P : Program} {w : World} {K : PySem.W.Frag} {elts : List Expr} {kk : Nat} {tpos : Pos} (k : SK) (e it : Addr) (hei : e ≠ it) (hek : k.ad ≠ e) (hik : k.ad ≠ it) :
    Turn P w K (.Tuple elts kk tpos) (IteG K k) [e, it] e (fun i h => (∃ old, IsEnum h e it ((i : Nat) : Int) old) ∧ k.It h it i) where
  mem := by simp
  obj := fun i h st b hb => by
    obtain ⟨⟨old, he⟩, hi⟩ := st
    have e' : b = e ∨ b = it := by simpa using hb
    rcases e' with z | z
    · rw [z]; exact ⟨_, he, fun v q => nomatch q⟩
    · rw [z]; exact SK.it_obj hi
  keep := fun i h h' st kp => let ⟨⟨old, he⟩, hi⟩ := st; ⟨⟨old, kp e (by simp) _ he⟩, SK.it_at hi fun o q => kp it (by simp) o q⟩
  item := by
    intro X hP hw hK hc i pins s σ H E I hf st hg
    subst hP hw hK
    obtain ⟨⟨old, he⟩, hit⟩ := st
    obtain ⟨xs, x, hq, hx⟩ := hg
    obtain ⟨its, rv, p, hz, ok, hok⟩ := Inv_sk I hq
    obtain ⟨u, hu, ru⟩ := rv.get hx
    have hel : e < s.heap.objs.size := Heap.lt_size he
    have hil : it < s.heap.objs.size := by obtain ⟨_, q, _⟩ := SK.it_obj hit; exact Heap.lt_size q
    have D := SK.draws (prog := X.prog) (w := X.w) (A := X.A.in1) (show X.A.in1.handled = none from I.ok.hd hc) it k hik its.toArray
    have hlt : i < its.toArray.size := by
      have := (List.getElem?_eq_some_iff.mp hu).1
      simpa using this
    have hef : e ∉ [it, k.ad] := by simp only [List.mem_cons, List.not_mem_nil, or_false, not_or]; exact ⟨hei, Ne.symm hek⟩
    refine wpAny_pyNext_enum_itemD D he ⟨hit, p⟩ hlt hei hef fun u' h' tk hP ho hit' hT hsz hk => ?_
    have eu : u' = u := by
      have h1 : its.toArray[i]? = some u := by simpa using hu
      exact Option.some.inj (hP.symm.trans h1)
    subst eu
    refine ⟨_, rfl, wpAny_letOwnedTupleGo_enum (s := { s with heap := h', toks := tk + 1 }) ho fun h'' he' sb => ?_⟩
    have hT2 : h''.get? s.heap.objs.size = some { cls := .type "tuple", data := .seq #[.int i tk, u'] } := (sb.2 _ (Nat.ne_of_gt hel)).trans hT
    have new : ObjOk X.prog X.w (upd H s.heap.objs.size (.tup [.int (i : Nat), x])) h'' s.heap.objs.size (.tup [.int (i : Nat), x]) :=
      ⟨by show 2 ≤ sizeLine; decide, [.int i tk, u'], .cons ⟨_, rfl⟩ (.cons ru .nil), ⟨_, hT2, rfl, _, rfl⟩⟩
    have I1 : Inv X pins σ (upd H s.heap.objs.size (.tup [.int (i : Nat), x])) { s with heap := h'', toks := tk + 1 } :=
      I.turnedNew (ch := [e, it]) (fun b ob hb q => (sb.2 b (fun z => hb (by simp [z]))).trans (hk b ob (fun z => hb (by simp [z])) (fun z => hb (by simp [z])) q)) hf (Nat.le_refl _) new
    refine ⟨.ref s.heap.objs.size, _, I1, rfl, ⟨_, x, rfl, I.hok.fresh (Nat.le_refl _), rfl, fun ys hy => by rw [Inv_sk_inj I hy hq]; exact hx⟩, ⟨⟨u', ?_⟩, SK.it_at hit'.1 fun o q => (sb.2 it (Ne.symm hei)).trans q⟩, fun b hb => ?_⟩
    · have e1 : ((i + 1 : Nat) : Int) = (i : Int) + 1 := by omega
      rw [e1]; exact he'
    · have hb' : b < s.heap.objs.size := by
        have e' : b = e ∨ b = it := by simpa using hb
        rcases e' with z | z
        · rw [z]; exact hel
        · rw [z]; exact hil
      rw [upd_ne (Nat.ne_of_lt hb')]
      exact (hf b hb).1
  done := by
    intro X hP hw hK hc i pins s σ H E I hf st hg
    subst hP hw hK
    obtain ⟨⟨old, he⟩, hit⟩ := st
    obtain ⟨xs, hq, hx⟩ := hg
    obtain ⟨its, rv, p, hz, ok, hok⟩ := Inv_sk I hq
    obtain ⟨f0, f1, f2, f3, f4, f5⟩ := hf it (by simp)
    have hl := rv.length
    cases k with
    | l a => exact wpAny_pyNext_enum_end (I.ok.hd hc) he hit p (by simp; omega) fun h' eb => ⟨rfl, I.turned (t' := s.toks) (fun b o hb q => eb b o hb q) f0 f1 f3 f4 f5⟩
    | t a =>
      have hT : s.TypeIs (.ref e) "enumerate" := ⟨_, he, rfl⟩
      unfold pyNext
      refine wpAny_bind (wpAny_attempt (wpAny_callSpecial?_slot (name := Str.ofString "__next__") hT PySem.F.slot_enumerate_next
        (wpAny_call_entry PySem.F.slot_enumerate_next hT PySem.F.entry_enumerate_next ?_ (PySem.F.args_enumerate_next_1 _))))
      show wpAny _ _ (field (.ref e) 2 >>= _) _ _ _
      refine wpAny_bind (wpAny_field he rfl (x := .ref it) rfl ?_)
      refine wpAny_bind (PySem.wpAny_nextOf_tuple_end (show X.A.in1.handled = none from I.ok.hd hc) hit p (by simp; omega) fun h' x he' hx' => ?_)
      obtain ⟨o, ho, hcl⟩ := hx'
      refine wpAny_bind (wpAny_isInstance (T := "StopIteration") (b := true) ⟨o, ho, hcl⟩ isSubtype_stop ?_)
      exact wpAny_pure ⟨rfl, I.turned (t' := s.toks) (fun b o hb q => he' b o hb q) f0 f1 f3 f4 f5⟩
  self := fun A i s Q E st h => let ⟨⟨_, he⟩, _⟩ := st; wpAny_pyIter_enum he h
/-- a list's, a tuple's iterator at its birth -/
def SK.ob0 (k : SK) : Obj := match k with
  | .l a => { cls := .type "list_iterator", data := .fields #[.ref a, .int 0 0] }
  | .t a => { cls := .type "tuple_iterator", data := .fields #[.ref a, .int 0 0] }
theorem SK.begins (k : SK) (items : Array Value) : Begins (.ref k.ad) k.ob0 fun h => k.Ob h items := by
  cases k with
  | l a => exact begins_list a items
  | t a => exact begins_tuple a items
theorem SK.it0 {h : Heap} {it : Addr} {k : SK} (e : h.get? it = some k.ob0) : k.It h it 0 := by
  cases k with
  | l a => exact ⟨_, e, rfl, rfl⟩
  | t a => exact ⟨_, e, rfl, rfl⟩
set_option maxHeartbeats 1000000 in
theorem enum_one {v : Value} {o : Obj} {Hs : Heap → Prop} (B : Begins v o Hs) :
    Meets (Builtin.«enumerate.__new__» ⟨[.type "enumerate", v], []⟩) (fun _ R s => Hs s.heap ∧ R (.ok (.ret (.ref (s.heap.push o).objs.size)))
      { s with heap := (s.heap.push o).push { cls := .type "enumerate", data := .fields #[.none, .bool false, .ref s.heap.objs.size, rawInt 0, .none, .none] } }) := by
  refine .of_wp fun prog w A R s h => ?_
  obtain ⟨hp, g, d, tk, os⟩ := s
  obtain ⟨h1, h⟩ := h
  have sub := sub_enumerate
  have first : ∀ {A' : Around} {E' : Value → Shared → Prop} {Q' : Value → Shared → Prop}, Q' (.ref hp.objs.size) ⟨hp.push o, g, d, tk, os⟩ → wpAny (model prog w) A' (pyIter v) Q' E' ⟨hp, g, d, tk, os⟩ :=
    fun q' => B.iter prog w _ _ ⟨hp, g, d, tk, os⟩ _ h1 q'
  wp_walk using first
  refine wpAny_stack_any fun st => wpAny_pure ?_
  split
  · rename_i c _ _ _ _ _
    cases (c == Value.type "enumerate") <;> (wp_walk using first; exact ⟨_, rfl, h⟩)
  · wp_walk using first
    exact ⟨_, rfl, h⟩
theorem enum_one_begins {prog : Program} {w : World} {A : Around} {E : Value → Shared → Prop} {s : Shared} {v : Value} {o : Obj} {Hs : Heap → Prop} {Q : Value → Shared → Prop} (B : Begins v o Hs) (h1 : Hs s.heap)
    (h : ∀ h', IsEnum h' (s.heap.objs.size + 1) s.heap.objs.size 0 .none → h'.get? s.heap.objs.size = some o → (∀ b u, s.heap.get? b = some u → h'.get? b = some u) → Q (.ref (s.heap.objs.size + 1)) { s with heap := h' }) :
    wpAny (model prog w) A (call (.type "enumerate") [v]) Q E s := by
  have sz : (s.heap.push o).objs.size = s.heap.objs.size + 1 := Heap.size_push ..
  have made : ((s.heap.push o).push { cls := .type "enumerate", data := .fields #[.none, .bool false, .ref s.heap.objs.size, rawInt 0, .none, .none] }).get? (s.heap.push o).objs.size =
      some { cls := .type "enumerate", data := .fields #[.none, .bool false, .ref s.heap.objs.size, rawInt 0, .none, .none] } := Heap.get?_push_size _ rfl
  refine callType_new PySem.F.called_enumerate (by decide) (PySem.F.typeCall_enumerate_1 _) (PySem.F.newCall_enumerate_1 _) (fun obj => PySem.F.args_object_init_2 obj _) PySem.F.entry_enumerate_new (enum_one B) ⟨h1, ?_⟩
  rw [sz] at made
  show _ ∧ _
  rw [sz]
  exact ⟨⟨_, made, rfl⟩, h _ made (Heap.get?_push_of_some _ (Heap.get?_push_size _ B.free)) fun b u q => Heap.get?_push_of_some _ (Heap.get?_push_of_some _ q)⟩
/-- enumerate(list or tuple) -/
def iEnumG (K : PySem.W.Frag) (ta : TA) : TI := fun σ H R => ta σ H fun vs H1 => ∃ (k : SK) (xs : List V), vs = [.ref k.ad] ∧ k.At K H1 xs ∧ R (IteG K k) H1
theorem pi_enumG {e : Expr} {ta : TA} {p pos tpos : Pos} {elts : List Expr} {kk : Nat} (hg : Gl X "enumerate") (hm : X.mg "enumerate" = none) (ha : PA X [e] ta) (hs : starEach [e] X.env = [(false, eval e X.env)]) :
    PI X (.Tuple elts kk tpos) (.Call (.Name "enumerate" p) [e] [] pos) (iEnumG X.K ta) := by
  refine ⟨fun pins s σ H R I h => ?_⟩
  refine Call_ (ld_blt I hg hm boot_enumerate (PyProof.Rows.callWith_type1 (thn (ha.run pos pins s σ H _ I h) fun us s1 ⟨vs, H1, I1, r1, q1⟩ => ?_) hs rfl))
  obtain ⟨k, xs, rfl, hq, q⟩ := q1
  rw [Vals.ref1 r1]
  obtain ⟨its, rv, p', hz, ok, hok⟩ := Inv_sk I1 hq
  have hlt : k.ad < s1.heap.objs.size := Heap.lt_size hok
  refine enum_one_begins (k.begins its.toArray) p' fun h' he hit hk => wpAny_pyIter_enum he ?_
  have fr : ∀ b, b ∈ [s1.heap.objs.size + 1, s1.heap.objs.size] → FpOk X pins H1 b := fun b hb => by
    have hle : s1.heap.objs.size ≤ b := by
      rcases List.mem_cons.mp hb with z | z
      · rw [z]; exact Nat.le_succ _
      · rw [List.mem_singleton.mp z]; exact Nat.le_refl _
    exact I1.fpOk hle (I1.hok.fresh hle)
  exact ⟨s1.heap.objs.size + 1, [s1.heap.objs.size + 1, s1.heap.objs.size], _, _, H1, rfl, I1.kept (t' := s1.toks) hk, turn_enumG k (s1.heap.objs.size + 1) s1.heap.objs.size (Nat.succ_ne_self _)
    (Nat.ne_of_lt (Nat.lt_succ_of_lt hlt)) (Nat.ne_of_lt hlt), ⟨⟨.none, he⟩, SK.it0 hit⟩, fr, q⟩
/-! ### zip of two -/
def ItzG (K : PySem.W.Frag) (k1 k2 : SK) : L2.It :=
  ⟨fun i H => ∃ (xs ys : List V) (x y : V), k1.At K H xs ∧ k2.At K H ys ∧ xs[i]? = some x ∧ ys[i]? = some y,
    fun i H v H' => ∃ T x y, v = .ref T ∧ H T = none ∧ H' = upd H T (.tup [x, y]) ∧ (∀ xs, k1.At K H xs → xs[i]? = some x) ∧ ∀ ys, k2.At K H ys → ys[i]? = some y,
    fun i H => ∃ xs ys : List V, k1.At K H xs ∧ k2.At K H ys ∧ i = min xs.length ys.length⟩
structure Apart (z TI TO i1 i2 : Addr) (k1 k2 : SK) : Prop where
  sep : ZipSep2 z TI TO i1 i2 [i1, k1.ad] [i2, k2.ad]
  n1 : k1.ad ≠ i1
  n2 : k2.ad ≠ i2
  i1z : i1 ≠ z
  i2z : i2 ≠ z
theorem turn_zipG {P : Program} {w : World} {K : PySem.W.Frag} {elts : List Expr} {kk : Nat} {tpos : Pos} {k1 k2 : SK} {z TI TO i1 i2 : Addr} (D : Apart z TI TO i1 i2 k1 k2) :
    Turn P w K (.Tuple elts kk tpos) (ItzG K k1 k2) [z, TI, TO, i1, i2] z (fun i h => IsZip h z TI TO .none ∧ IsTupOf2 h TI (.ref i1) (.ref i2) ∧ (∃ x y, IsTupOf2 h TO x y) ∧ k1.It h i1 i ∧ k2.It h i2 i) where
  mem := by simp
  obj := fun i h st c hc => by
    obtain ⟨hz, hTI, ⟨x, y, hTO⟩, h1, h2⟩ := st
    have e' : c = z ∨ c = TI ∨ c = TO ∨ c = i1 ∨ c = i2 := by simpa using hc
    rcases e' with q | q | q | q | q <;> rw [q]
    · exact ⟨_, hz, fun v q => nomatch q⟩
    · exact ⟨_, hTI, fun v q => nomatch q⟩
    · exact ⟨_, hTO, fun v q => nomatch q⟩
    · exact SK.it_obj h1
    · exact SK.it_obj h2
  keep := fun i h h' st k => by
    obtain ⟨hz, hTI, ⟨x, y, hTO⟩, h1, h2⟩ := st
    exact ⟨k z (by simp) _ hz, k TI (by simp) _ hTI, ⟨x, y, k TO (by simp) _ hTO⟩, SK.it_at h1 fun o q => k i1 (by simp) o q, SK.it_at h2 fun o q => k i2 (by simp) o q⟩
  item := by
    intro X hP hw hK hc i pins s σ H E I hf st hg
    subst hP hw hK
    obtain ⟨hz, hTI, hTO, h1, h2⟩ := st
    obtain ⟨xs, ys, x, y, hqx, hqy, hx, hy⟩ := hg
    obtain ⟨its, rv, p, _, _, _⟩ := Inv_sk I hqx
    obtain ⟨its2, rv2, p2, _, _, _⟩ := Inv_sk I hqy
    obtain ⟨u, hu, ru⟩ := rv.get hx
    obtain ⟨u2, hu2, ru2⟩ := rv2.get hy
    have W := GoesN.zip2 (elts := elts) (x1 := kk) (pos := tpos) D.sep (SK.draws (prog := X.prog) (w := X.w) (A := X.A.in1) (show X.A.in1.handled = none from I.ok.hd hc) i1 k1 D.n1 its.toArray)
      (SK.draws (prog := X.prog) (w := X.w) (A := X.A.in1) (show X.A.in1.handled = none from I.ok.hd hc) i2 k2 D.n2 its2.toArray)
    have lt1 := (List.getElem?_eq_some_iff.mp hu).1
    have lt2 := (List.getElem?_eq_some_iff.mp hu2).1
    refine W.goes i s _ E (by simp only [List.size_toArray]; omega) ⟨hz, hTI, hTO, ⟨h1, p⟩, ⟨h2, p2⟩⟩ fun v h' tk hY st' hk htk => ?_
    obtain ⟨T, u', u2', rfl, hnew, e1, e2, hT⟩ := hY
    have eu : u' = u := Option.some.inj (e1.symm.trans (by simpa using hu))
    have eu2 : u2' = u2 := Option.some.inj (e2.symm.trans (by simpa using hu2))
    subst eu eu2
    have hn : H T = none := I.hok.fresh hnew
    have new : ObjOk X.prog X.w (upd H T (.tup [x, y])) h' T (.tup [x, y]) :=
      ⟨by show 2 ≤ sizeLine; decide, [u', u2'], .cons ru (.cons ru2 .nil), hT⟩
    have I1 : Inv X pins σ (upd H T (.tup [x, y])) { s with heap := h', toks := tk } :=
      I.turnedNew (ch := [z, TI, TO, i1, i2]) (fun c o hb q => hk c o (fun q' => hb (by
        simp only [List.mem_cons, List.not_mem_nil, or_false] at q' ⊢
        rcases q' with q' | q' | q' | q' <;> simp [q'])) q) hf hnew new
    refine ⟨.ref T, _, I1, rfl, ⟨T, x, y, rfl, hn, rfl, fun l hl => by rw [Inv_sk_inj I hl hqx]; exact hx, fun l hl => by rw [Inv_sk_inj I hl hqy]; exact hy⟩, ⟨st'.1, st'.2.1, st'.2.2.1, st'.2.2.2.1.1, st'.2.2.2.2.1⟩, fun c hcm => ?_⟩
    have hlt : c < s.heap.objs.size := by
      obtain ⟨_, _, hTO'⟩ := hTO
      have e' : c = z ∨ c = TI ∨ c = TO ∨ c = i1 ∨ c = i2 := by simpa using hcm
      rcases e' with q | q | q | q | q <;> rw [q]
      · exact Heap.lt_size hz
      · exact Heap.lt_size hTI
      · exact Heap.lt_size hTO'
      · obtain ⟨_, e1, _⟩ := SK.it_obj h1; exact Heap.lt_size e1
      · obtain ⟨_, e2, _⟩ := SK.it_obj h2; exact Heap.lt_size e2
    rw [upd_ne (Nat.ne_of_lt (Nat.lt_of_lt_of_le hlt hnew))]
    exact (hf c hcm).1
  done := by
    intro X hP hw hK hc i pins s σ H E I hf st hg
    subst hP hw hK
    obtain ⟨hz, hTI, hTO, h1, h2⟩ := st
    obtain ⟨xs, ys, hqx, hqy, rfl⟩ := hg
    obtain ⟨its, rv, p, _, _, _⟩ := Inv_sk I hqx
    obtain ⟨its2, rv2, p2, _, _, _⟩ := Inv_sk I hqy
    have W := GoesN.zip2 (elts := elts) (x1 := kk) (pos := tpos) D.sep (SK.draws (prog := X.prog) (w := X.w) (A := X.A.in1) (show X.A.in1.handled = none from I.ok.hd hc) i1 k1 D.n1 its.toArray)
      (SK.draws (prog := X.prog) (w := X.w) (A := X.A.in1) (show X.A.in1.handled = none from I.ok.hd hc) i2 k2 D.n2 its2.toArray)
    have e0 : min its.toArray.size its2.toArray.size = min xs.length ys.length := by rw [rv.length, rv2.length]; simp
    have W' := W.stops s (fun s1 => Inv X pins σ H s1) E (by rw [e0]; exact ⟨hz, hTI, hTO, ⟨h1, p⟩, ⟨h2, p2⟩⟩)
    refine W' fun h' tk hk htk => I.turnedL (ch := [z, TI, TO, i1, i2]) (fun c o hb q => hk c o (fun q' => hb (by
        simp only [List.mem_cons, List.not_mem_nil, or_false] at q' ⊢
        rcases q' with q' | q' | q' | q' <;> simp [q'])) q) hf
  self := fun A i s Q E st h => wpAny_pyIter_zip st.1 h
def iZipG (K : PySem.W.Frag) (ta : TA) : TI := fun σ H R => ta σ H fun vs H1 => ∃ (k1 k2 : SK) (xs ys : List V), vs = [.ref k1.ad, .ref k2.ad] ∧ k1.At K H1 xs ∧ k2.At K H1 ys ∧ R (ItzG K k1 k2) H1
theorem pi_zipG {e e2 : Expr} {ta : TA} {p pos tpos : Pos} {elts : List Expr} {kk : Nat} (hg : Gl X "zip") (hm : X.mg "zip" = none) (ha : PA X [e, e2] ta)
    (hs : starEach [e, e2] X.env = (false, eval e X.env) :: starEach [e2] X.env) (hpl : (backTo pos (starEach [e2] X.env)).any (·.1) = false) :
    PI X (.Tuple elts kk tpos) (.Call (.Name "zip" p) [e, e2] [] pos) (iZipG X.K ta) := by
  refine ⟨fun pins s σ H R I h => ?_⟩
  refine Call_ (ld_blt I hg hm PyProof.Rows.boot_zip (PyProof.Rows.callWith_type1 (thn (ha.run pos pins s σ H _ I h) fun us s1 ⟨vs, H1, I1, r1, q1⟩ => ?_) hs hpl))
  obtain ⟨k1, k2, xs, ys, rfl, hqx, hqy, q⟩ := q1
  obtain ⟨u1, u2, rfl, r, r'⟩ := Vals.two r1
  cases r
  cases r'
  obtain ⟨its, rv, p1, _, _, o1⟩ := Inv_sk I1 hqx
  obtain ⟨its2, rv2, p2, _, _, o2⟩ := Inv_sk I1 hqy
  have l1 : k1.ad < s1.heap.objs.size := Heap.lt_size o1
  have l2 : k2.ad < s1.heap.objs.size := Heap.lt_size o2
  refine zip_begins2 (k1.begins its.toArray) (k2.begins its2.toArray) p1 p2 fun h' hz hTI hTO g1 g2 hsz hk => wpAny_pyIter_zip hz ?_
  have fr : ∀ c, c ∈ [s1.heap.objs.size + 4, s1.heap.objs.size + 2, s1.heap.objs.size + 3, s1.heap.objs.size, s1.heap.objs.size + 1] → FpOk X pins H1 c := fun c hcm => by
    have hle : s1.heap.objs.size ≤ c := by
      simp only [List.mem_cons, List.not_mem_nil, or_false] at hcm
      rcases hcm with z | z | z | z | z <;> rw [z] <;> first | exact Nat.le_add_right _ _ | exact Nat.le_refl _
    exact I1.fpOk hle (I1.hok.fresh hle)
  have D : Apart (s1.heap.objs.size + 4) (s1.heap.objs.size + 2) (s1.heap.objs.size + 3) s1.heap.objs.size (s1.heap.objs.size + 1) k1 k2 :=
    ⟨zip_sep2 (fun b hb => by rw [List.mem_singleton.mp hb]; exact l1) (fun b hb => by rw [List.mem_singleton.mp hb]; exact l2), Nat.ne_of_lt l1, Nat.ne_of_lt (Nat.lt_succ_of_lt l2),
      Nat.ne_of_lt (Nat.lt_add_of_pos_right (by decide)), Nat.ne_of_lt (Nat.add_lt_add_left (by decide) _)⟩
  exact ⟨s1.heap.objs.size + 4, _, _, _, H1, rfl, I1.kept (t' := s1.toks) hk, turn_zipG D, ⟨hz, hTI, ⟨_, _, hTO⟩, SK.it0 g1, SK.it0 g2⟩, fr, q⟩
/-! ### zip of three -/
def ItzG3 (K : PySem.W.Frag) (k1 k2 k3 : SK) : L2.It :=
  ⟨fun i H => ∃ (xs ys zs : List V) (x y z : V), k1.At K H xs ∧ k2.At K H ys ∧ k3.At K H zs ∧ xs[i]? = some x ∧ ys[i]? = some y ∧ zs[i]? = some z,
    fun i H v H' => ∃ T x y z, v = .ref T ∧ H T = none ∧ H' = upd H T (.tup [x, y, z]) ∧ (∀ xs, k1.At K H xs → xs[i]? = some x) ∧ (∀ ys, k2.At K H ys → ys[i]? = some y) ∧ ∀ zs, k3.At K H zs → zs[i]? = some z,
    fun i H => ∃ xs ys zs : List V, k1.At K H xs ∧ k2.At K H ys ∧ k3.At K H zs ∧ i = min (min xs.length ys.length) zs.length⟩
structure Apart3 (z TI TO i1 i2 i3 : Addr) (k1 k2 k3 : SK) : Prop where
  sep : ZipSep3 z TI TO i1 i2 i3 [i1, k1.ad] [i2, k2.ad] [i3, k3.ad]
  n1 : k1.ad ≠ i1
  n2 : k2.ad ≠ i2
  n3 : k3.ad ≠ i3
theorem turn_zipG3 {P : Program} {w : World} {K : PySem.W.Frag} {elts : List Expr} {kk : Nat} {tpos : Pos} {k1 k2 k3 : SK} {z TI TO i1 i2 i3 : Addr} (D : Apart3 z TI TO i1 i2 i3 k1 k2 k3) :
    Turn P w K (.Tuple elts kk tpos) (ItzG3 K k1 k2 k3) [z, TI, TO, i1, i2, i3] z (fun i h => IsZip h z TI TO .none ∧ IsTupOf3 h TI (.ref i1) (.ref i2) (.ref i3) ∧ (∃ x y u, IsTupOf3 h TO x y u) ∧ k1.It h i1 i ∧ k2.It h i2 i ∧ k3.It h i3 i) where
  mem := by simp
  obj := fun i h st c hc => by
    obtain ⟨hz, hTI, ⟨x, y, u, hTO⟩, h1, h2, h3⟩ := st
    have e' : c = z ∨ c = TI ∨ c = TO ∨ c = i1 ∨ c = i2 ∨ c = i3 := by simpa using hc
    rcases e' with q | q | q | q | q | q <;> rw [q]
    · exact ⟨_, hz, fun v q => nomatch q⟩
    · exact ⟨_, hTI, fun v q => nomatch q⟩
    · exact ⟨_, hTO, fun v q => nomatch q⟩
    · exact SK.it_obj h1
    · exact SK.it_obj h2
    · exact SK.it_obj h3
  keep := fun i h h' st k => by
    obtain ⟨hz, hTI, ⟨x, y, u, hTO⟩, h1, h2, h3⟩ := st
    exact ⟨k z (by simp) _ hz, k TI (by simp) _ hTI, ⟨x, y, u, k TO (by simp) _ hTO⟩, SK.it_at h1 fun o q => k i1 (by simp) o q, SK.it_at h2 fun o q => k i2 (by simp) o q, SK.it_at h3 fun o q => k i3 (by simp) o q⟩
  item := by
    intro X hP hw hK hc i pins s σ H E I hf st hg
    subst hP hw hK
    obtain ⟨hz, hTI, hTO, h1, h2, h3⟩ := st
    obtain ⟨xs, ys, zs, x, y, z3, hqx, hqy, hqz, hx, hy, hz3⟩ := hg
    obtain ⟨its, rv, p, _, _, _⟩ := Inv_sk I hqx
    obtain ⟨its2, rv2, p2, _, _, _⟩ := Inv_sk I hqy
    obtain ⟨its3, rv3, p3, _, _, _⟩ := Inv_sk I hqz
    obtain ⟨u, hu, ru⟩ := rv.get hx
    obtain ⟨u2, hu2, ru2⟩ := rv2.get hy
    obtain ⟨u3, hu3, ru3⟩ := rv3.get hz3
    have W := GoesN.zip3 (elts := elts) (x1 := kk) (pos := tpos) D.sep (SK.draws (prog := X.prog) (w := X.w) (A := X.A.in1) (show X.A.in1.handled = none from I.ok.hd hc) i1 k1 D.n1 its.toArray)
      (SK.draws (prog := X.prog) (w := X.w) (A := X.A.in1) (show X.A.in1.handled = none from I.ok.hd hc) i2 k2 D.n2 its2.toArray)
      (SK.draws (prog := X.prog) (w := X.w) (A := X.A.in1) (show X.A.in1.handled = none from I.ok.hd hc) i3 k3 D.n3 its3.toArray)
    have lt1 := (List.getElem?_eq_some_iff.mp hu).1
    have lt2 := (List.getElem?_eq_some_iff.mp hu2).1
    have lt3 := (List.getElem?_eq_some_iff.mp hu3).1
    refine W.goes i s _ E (by simp only [List.size_toArray]; omega) ⟨hz, hTI, hTO, ⟨h1, p⟩, ⟨h2, p2⟩, ⟨h3, p3⟩⟩ fun v h' tk hY st' hk htk => ?_
    obtain ⟨T, u', u2', u3', rfl, hnew, e1, e2, e3, hT⟩ := hY
    have eu : u' = u := Option.some.inj (e1.symm.trans (by simpa using hu))
    have eu2 : u2' = u2 := Option.some.inj (e2.symm.trans (by simpa using hu2))
    have eu3 : u3' = u3 := Option.some.inj (e3.symm.trans (by simpa using hu3))
    subst eu eu2 eu3
    have hn : H T = none := I.hok.fresh hnew
    have new : ObjOk X.prog X.w (upd H T (.tup [x, y, z3])) h' T (.tup [x, y, z3]) :=
      ⟨by show 3 ≤ sizeLine; decide, [u', u2', u3'], .cons ru (.cons ru2 (.cons ru3 .nil)), hT⟩
    have I1 : Inv X pins σ (upd H T (.tup [x, y, z3])) { s with heap := h', toks := tk } :=
      I.turnedNew (ch := [z, TI, TO, i1, i2, i3]) (fun c o hb q => hk c o (fun q' => hb (by
        simp only [List.mem_cons, List.not_mem_nil, or_false] at q' ⊢
        rcases q' with q' | q' | q' | q' | q' <;> simp [q'])) q) hf hnew new
    refine ⟨.ref T, _, I1, rfl, ⟨T, x, y, z3, rfl, hn, rfl, fun l hl => by rw [Inv_sk_inj I hl hqx]; exact hx, fun l hl => by rw [Inv_sk_inj I hl hqy]; exact hy, fun l hl => by rw [Inv_sk_inj I hl hqz]; exact hz3⟩, ⟨st'.1, st'.2.1, st'.2.2.1, st'.2.2.2.1.1, st'.2.2.2.2.1.1, st'.2.2.2.2.2.1⟩, fun c hcm => ?_⟩
    have hlt : c < s.heap.objs.size := by
      obtain ⟨_, _, _, hTO'⟩ := hTO
      have e' : c = z ∨ c = TI ∨ c = TO ∨ c = i1 ∨ c = i2 ∨ c = i3 := by simpa using hcm
      rcases e' with q | q | q | q | q | q <;> rw [q]
      · exact Heap.lt_size hz
      · exact Heap.lt_size hTI
      · exact Heap.lt_size hTO'
      · obtain ⟨_, e1, _⟩ := SK.it_obj h1; exact Heap.lt_size e1
      · obtain ⟨_, e2, _⟩ := SK.it_obj h2; exact Heap.lt_size e2
      · obtain ⟨_, e2, _⟩ := SK.it_obj h3; exact Heap.lt_size e2
    rw [upd_ne (Nat.ne_of_lt (Nat.lt_of_lt_of_le hlt hnew))]
    exact (hf c hcm).1
  done := by
    intro X hP hw hK hc i pins s σ H E I hf st hg
    subst hP hw hK
    obtain ⟨hz, hTI, hTO, h1, h2, h3⟩ := st
    obtain ⟨xs, ys, zs, hqx, hqy, hqz, rfl⟩ := hg
    obtain ⟨its, rv, p, _, _, _⟩ := Inv_sk I hqx
    obtain ⟨its2, rv2, p2, _, _, _⟩ := Inv_sk I hqy
    obtain ⟨its3, rv3, p3, _, _, _⟩ := Inv_sk I hqz
    have W := GoesN.zip3 (elts := elts) (x1 := kk) (pos := tpos) D.sep (SK.draws (prog := X.prog) (w := X.w) (A := X.A.in1) (show X.A.in1.handled = none from I.ok.hd hc) i1 k1 D.n1 its.toArray)
      (SK.draws (prog := X.prog) (w := X.w) (A := X.A.in1) (show X.A.in1.handled = none from I.ok.hd hc) i2 k2 D.n2 its2.toArray)
      (SK.draws (prog := X.prog) (w := X.w) (A := X.A.in1) (show X.A.in1.handled = none from I.ok.hd hc) i3 k3 D.n3 its3.toArray)
    have e0 : min (min its.toArray.size its2.toArray.size) its3.toArray.size = min (min xs.length ys.length) zs.length := by rw [rv.length, rv2.length, rv3.length]; simp
    have W' := W.stops s (fun s1 => Inv X pins σ H s1) E (by rw [e0]; exact ⟨hz, hTI, hTO, ⟨h1, p⟩, ⟨h2, p2⟩, ⟨h3, p3⟩⟩)
    refine W' fun h' tk hk htk => I.turnedL (ch := [z, TI, TO, i1, i2, i3]) (fun c o hb q => hk c o (fun q' => hb (by
        simp only [List.mem_cons, List.not_mem_nil, or_false] at q' ⊢
        rcases q' with q' | q' | q' | q' | q' <;> simp [q'])) q) hf
  self := fun A i s Q E st h => wpAny_pyIter_zip st.1 h
def iZipG3 (K : PySem.W.Frag) (ta : TA) : TI := fun σ H R => ta σ H fun vs H1 => ∃ (k1 k2 k3 : SK) (xs ys zs : List V), vs = [.ref k1.ad, .ref k2.ad, .ref k3.ad] ∧ k1.At K H1 xs ∧ k2.At K H1 ys ∧ k3.At K H1 zs ∧ R (ItzG3 K k1 k2 k3) H1
theorem Vals.three' : ∀ {x y z : V} {us : List Value}, Vals [x, y, z] us → ∃ u v w, us = [u, v, w] ∧ RelV x u ∧ RelV y v ∧ RelV z w
  | _, _, _, _, .cons r (.cons q (.cons p .nil)) => ⟨_, _, _, rfl, r, q, p⟩
theorem pi_zipG3 {e e2 e3 : Expr} {ta : TA} {p pos tpos : Pos} {elts : List Expr} {kk : Nat} (hg : Gl X "zip") (hm : X.mg "zip" = none) (ha : PA X [e, e2, e3] ta)
    (hs : starEach [e, e2, e3] X.env = (false, eval e X.env) :: starEach [e2, e3] X.env) (hpl : (backTo pos (starEach [e2, e3] X.env)).any (·.1) = false) :
    PI X (.Tuple elts kk tpos) (.Call (.Name "zip" p) [e, e2, e3] [] pos) (iZipG3 X.K ta) := by
  refine ⟨fun pins s σ H R I h => ?_⟩
  refine Call_ (ld_blt I hg hm PyProof.Rows.boot_zip (PyProof.Rows.callWith_type1 (thn (ha.run pos pins s σ H _ I h) fun us s1 ⟨vs, H1, I1, r1, q1⟩ => ?_) hs hpl))
  obtain ⟨k1, k2, k3, xs, ys, zs, rfl, hqx, hqy, hqz, q⟩ := q1
  obtain ⟨u1, u2, u3, rfl, r, r', r''⟩ := Vals.three' r1
  cases r
  cases r'
  cases r''
  obtain ⟨its, rv, p1, _, _, o1⟩ := Inv_sk I1 hqx
  obtain ⟨its2, rv2, p2, _, _, o2⟩ := Inv_sk I1 hqy
  obtain ⟨its3, rv3, p3, _, _, o3⟩ := Inv_sk I1 hqz
  have l1 : k1.ad < s1.heap.objs.size := Heap.lt_size o1
  have l2 : k2.ad < s1.heap.objs.size := Heap.lt_size o2
  have l3 : k3.ad < s1.heap.objs.size := Heap.lt_size o3
  refine zip_begins3 (k1.begins its.toArray) (k2.begins its2.toArray) (k3.begins its3.toArray) p1 p2 p3 fun h' hz hTI hTO g1 g2 g3 hsz hk => wpAny_pyIter_zip hz ?_
  have fr : ∀ c, c ∈ [s1.heap.objs.size + 5, s1.heap.objs.size + 3, s1.heap.objs.size + 4, s1.heap.objs.size, s1.heap.objs.size + 1, s1.heap.objs.size + 2] → FpOk X pins H1 c := fun c hcm => by
    have hle : s1.heap.objs.size ≤ c := by
      simp only [List.mem_cons, List.not_mem_nil, or_false] at hcm
      rcases hcm with z | z | z | z | z | z <;> rw [z] <;> first | exact Nat.le_add_right _ _ | exact Nat.le_refl _
    exact I1.fpOk hle (I1.hok.fresh hle)
  have D : Apart3 (s1.heap.objs.size + 5) (s1.heap.objs.size + 3) (s1.heap.objs.size + 4) s1.heap.objs.size (s1.heap.objs.size + 1) (s1.heap.objs.size + 2) k1 k2 k3 :=
    ⟨zip_sep3 (fun b hb => by rw [List.mem_singleton.mp hb]; exact l1) (fun b hb => by rw [List.mem_singleton.mp hb]; exact l2) (fun b hb => by rw [List.mem_singleton.mp hb]; exact l3), Nat.ne_of_lt l1, Nat.ne_of_lt (Nat.lt_succ_of_lt l2), Nat.ne_of_lt (Nat.lt_succ_of_lt (Nat.lt_succ_of_lt l3))⟩
  exact ⟨s1.heap.objs.size + 5, _, _, _, H1, rfl, I1.kept (t' := s1.toks) hk, turn_zipG3 D, ⟨hz, hTI, ⟨_, _, _, hTO⟩, SK.it0 g1, SK.it0 g2, SK.it0 g3⟩, fr, q⟩
end
end MM
set_option Elab.async false
set_option linter.all false
set_option maxRecDepth 100000
/-! M6: each construct by what the evaluator says. -/
namespace MM
open PySem PySem.Spec PyProof.Rows L2
abbrev RVr (K : PySem.W.Frag) : Trk → Hp → MV → V → Prop := fun as H => RV K as H
abbrev RVsr (K : PySem.W.Frag) : Trk → Hp → List MV → List V → Prop := fun as H => RVs K as H
abbrev REq {α : Type} : Trk → Hp → α → α → Prop := fun _ _ a b => a = b
/-- a reading by the evaluator -/
def rd {α β : Type} (K : PySem.W.Frag) (mg : Str → Option Value) (W : WX) (R : Trk → Hp → α → β → Prop) (f : MEnv → MH → Res α) : L2.St → Hp → (β → Hp → Prop) → Prop :=
  fun σ H Q => ∃ as h e, Sim K as H h ∧ EnvR K as H e σ ∧ Post K mg W R as H σ Q (f e h)
theorem PE.imp {X : Cx} {e : Expr} {t t' : TE} (h : PE X e t) (hi : ∀ σ H Q, t' σ H Q → t σ H Q) : PE X e t' := ⟨fun pins s σ H Q I q => h.run pins s σ H Q I (hi σ H Q q)⟩
theorem PT.imp {X : Cx} {e : Expr} {t t' : TT} (h : PT X e t) (hi : ∀ σ H Q, t' σ H Q → t σ H Q) : PT X e t' := ⟨fun pins s σ H Q I q => h.run pins s σ H Q I (hi σ H Q q)⟩
theorem PW.imp {X : Cx} {e : Expr} {t t' : TT} (h : PW X e t) (hi : ∀ σ H Q, t' σ H Q → t σ H Q) : PW X e t' := ⟨fun w pins s σ H Q I q => h.run w pins s σ H Q I (hi σ H Q q)⟩
theorem PA.imp {X : Cx} {e : List Expr} {t t' : TA} (h : PA X e t) (hi : ∀ σ H Q, t' σ H Q → t σ H Q) : PA X e t' := ⟨fun pos pins s σ H Q I q => h.run pos pins s σ H Q I (hi σ H Q q)⟩
theorem PS.imp {X : Cx} {e : Stmt} {t t' : TS} (h : PS X e t) (hi : ∀ D σ H, t' D σ H → t D σ H) : PS X e t' := ⟨fun pins s σ H Q I q => h.run pins s σ H Q I (hi Q σ H q)⟩
theorem PSs.imp {X : Cx} {e : List Stmt} {t t' : TS} (h : PSs X e t) (hi : ∀ D σ H, t' D σ H → t D σ H) : PSs X e t' := ⟨fun pins s σ H Q I q => h.run pins s σ H Q I (hi Q σ H q)⟩
theorem PG.imp {X : Cx} {e : Expr} {t t' : TG} (h : PG X e t) (hi : ∀ v σ H Q, t' v σ H Q → t v σ H Q) : PG X e t' := ⟨fun pins s σ H v u Q I r q => h.run pins s σ H v u Q I r (hi v σ H Q q)⟩
theorem PGs.imp {X : Cx} {e : List Expr} {t t' : TGs} (h : PGs X e t) (hi : ∀ v σ H Q, t' v σ H Q → t v σ H Q) : PGs X e t' := ⟨fun pins s σ H v u Q I r q => h.run pins s σ H v u Q I r (hi v σ H Q q)⟩
theorem PI.imp {X : Cx} {tg e : Expr} {t t' : TI} (h : PI X tg e t) (hi : ∀ σ H Q, t' σ H Q → t σ H Q) : PI X tg e t' := ⟨fun pins s σ H Q I q => h.run pins s σ H Q I (hi σ H Q q)⟩
theorem PO.imp {X : Cx} {e : Option Expr} {t t' : TO} (h : PO X e t) (hi : ∀ σ H Q, t' σ H Q → t σ H Q) : PO X e t' := ⟨fun pins s σ H Q I q => h.run pins s σ H Q I (hi σ H Q q)⟩
section
variable {K : PySem.W.Frag} {mg : Str → Option Value} {W : WX} {σ : L2.St} {as : Trk} {H : Hp}
/-- an outcome without a call of ours -/
theorem Post.of_ok {α β : Type} {R : Trk → Hp → α → β → Prop} {Q : β → Hp → Prop} {a : α} {h : MH} {b : β} (S : Sim K as H h) (r : R as H a b) (p : Post K mg W R as H σ Q (.ok a h)) : Q b H := p as H b .refl S r
theorem rd.mk {α β : Type} {R : Trk → Hp → α → β → Prop} {f : MEnv → MH → Res α} {Q : β → Hp → Prop} {e : MEnv} {h : MH} (S : Sim K as H h) (E : EnvR K as H e σ) (p : Post K mg W R as H σ Q (f e h)) : rd K mg W R f σ H Q := ⟨as, h, e, S, E, p⟩
/-- an operation on values behind -/
theorem Post.pure {α β : Type} {R : Trk → Hp → α → β → Prop} {Q : β → Hp → Prop} {r : Res α} {h : MH} (hr : (∃ z, r = .ok z h) ∨ r = .bad) (p : Post K mg W R as H σ Q r) :
    ∃ z, r = .ok z h ∧ ∀ as' H' v, Ext as H as' H' → Sim K as' H' h → R as' H' z v → Q v H' := by
  rcases hr with ⟨z, rfl⟩ | rfl
  · exact ⟨z, rfl, p⟩
  · exact False.elim p
theorem Post.mono {α β : Type} {R : Trk → Hp → α → β → Prop} {Q Q' : β → Hp → Prop} {r : Res α} (p : Post K mg W R as H σ Q r) (hq : ∀ b H, Q b H → Q' b H) : Post K mg W R as H σ Q' r := by
  cases r with
  | ok a h => exact fun as' H' b x S r => hq b H' (p as' H' b x S r)
  | exc x f h => exact p
  | bad => exact p
end
def opOf : BO → Operator
  | .add => .Add | .sub => .Sub | .mul => .Mult | .fdiv => .FloorDiv | .mod => .Mod | .pow => .Pow
def coOf : CO → CmpOp
  | .eq => .Eq | .ne => .NotEq | .lt => .Lt | .le => .LtE | .gt => .Gt | .ge => .GtE | .isIn => .In | .notIn => .NotIn
section
variable {X : Cx} {W : WX}
theorem op_any : ∀ op : BO, OpR X (binaryOp (opOf op)) (rM X (binV op))
  | .add => op_addM | .sub => op_subM | .mul => op_mulM | .fdiv => op_fdivM | .mod => op_modM | .pow => op_powM
theorem cmp_any (hu : X.A.units + 65 < cLine) : ∀ op : CO, OpR X (compareOp (coOf op)) (rM X (cmpV op))
  | .eq => cmp_eqM hu | .ne => cmp_neM hu | .lt => cmp_ltM hu | .le => cmp_leM | .gt => cmp_gtM | .ge => cmp_geM | .isIn => cmp_inM hu | .notIn => cmp_notInM hu
abbrev rdE (X : Cx) (W : WX) (f : MEnv → MH → Res MV) : TE := rd X.K X.mg W (RVr X.K) f
abbrev rdEs (X : Cx) (W : WX) (f : MEnv → MH → Res (List MV)) : TA := rd X.K X.mg W (RVsr X.K) f
abbrev rdB (X : Cx) (W : WX) (f : MEnv → MH → Res Bool) : TT := rd X.K X.mg W REq f
abbrev rdO (X : Cx) (W : WX) (f : MEnv → MH → Res (Option Int)) : TO := rd X.K X.mg W REq f
/-! ### leaves -/
theorem s_var {i : Nat} {x : Str} {pos : Pos} {N : List Str} (hN : X.N[i]? = some x) (hv : Vis X.env.scope x) (hd : (x == ("__debug__" : Str)) = false) (hcd : (x == ("__classdict__" : Str)) = false) {G : Callee} :
    PE X (.Name x pos) (rdE X W fun e h => evE G (.var i) e h) := by
  refine PE.imp (pe_var hN hv hd hcd) fun σ H Q ⟨as, h, e, S, E, p⟩ => ?_
  have p' : Post X.K X.mg W (RVr X.K) as H σ Q (match e[i]? with | some (some v) => .ok v h | _ => .bad) := p
  split at p'
  · rename_i v hv
    obtain ⟨w, h1, h2⟩ := E.at_ i v hv
    exact ⟨w, h1, p'.of_ok S h2⟩
  · exact False.elim p'
theorem s_const {e : Expr} {v : V} {m : MV} (h0 : PE X e (tC v)) (hr : ∀ as H, RV X.K as H m v) : PE X e (rdE X W fun _ h => .ok m h) := by
  refine PE.imp h0 fun σ H Q ⟨as, h, e, S, E, p⟩ => ?_
  exact p.of_ok S (hr as H)
/-! ### operators -/
theorem s_bin {op : BO} {a b : Expr} {pos : Pos} {fa fb : MEnv → MH → Res MV} (ha : PE X a (rdE X W fa)) (hb : PE X b (rdE X W fb)) :
    PE X (.BinOp a (opOf op) b pos) (rdE X W fun e h => (fa e h).bind fun x h1 => (fb e h1).bind fun y h2 => binV op x y h2) := by
  refine PE.imp (pe_op (op_any op) ha hb) fun σ H Q ⟨as, h, e, S, E, p⟩ => ?_
  refine ⟨as, h, e, S, E, p.bind fun x h1 as1 H1 v x1 S1 r1 p1 => ⟨as1, h1, e, S1, E.ext x1, p1.bind fun y h2 as2 H2 w x2 S2 r2 p2 => ?_⟩⟩
  obtain ⟨z, ez, q⟩ := p2.pure (binV_ok op x y h2)
  exact ⟨as2, h2, x, y, z, S2, RV.ext x2 x v r1, r2, ez, q⟩
theorem truth_TruV {K : PySem.W.Frag} {as : Trk} {H : Hp} {h : MH} {x : MV} {v : V} {b : Bool} (S : Sim K as H h) (e : truth h x = some b) (r : RV K as H x v) : TruV K v H b := by
  have emp : ∀ (xs : List MV) (vs : List V), RVs K as H xs vs → (!xs.isEmpty) = !vs.isEmpty := fun xs vs r => by
    have := r.length
    cases xs <;> cases vs <;> simp_all
  cases x with
  | non => cases (show some false = some b from e); cases (show v = .non from r); rfl
  | bl k =>
    have e : k = b := Option.some.inj e
    subst e
    have r : v = .bl k := r
    subst r
    exact rfl
  | int i =>
    cases (show some (decide (i ≠ 0)) = some b from e)
    cases (show v = .int i from r)
    show decide (i ≠ 0) = (i != 0)
    by_cases h : i = 0 <;> simp [h]
  | str y =>
    have e' : (if y.cps.size ≤ sizeLine then some (decide (y.cps.size ≠ 0)) else none) = some b := e
    split at e'
    · rename_i hl
      cases e'
      cases (show v = .str y from r)
      refine ⟨hl, ?_⟩
      show decide (y.cps.size ≠ 0) = ((y.cps.size : Int) != 0)
      by_cases h : y.cps.size = 0
      · simp [h]
      · simp [h]
    · cases e'
  | tup xs =>
    cases (show some (!xs.isEmpty) = some b from e)
    obtain ⟨a, vs, rfl, t, r⟩ := r
    exact .inr (.inl ⟨vs, t.sq, emp xs vs r⟩)
  | lst xs =>
    cases (show some (!xs.isEmpty) = some b from e)
    obtain ⟨a, vs, rfl, t, n, r⟩ := r
    exact .inl ⟨vs, .inl (.inl t), emp xs vs r⟩
  | scr xs =>
    cases (show some (!xs.isEmpty) = some b from e)
    obtain ⟨a, vs, rfl, t, r⟩ := r
    refine .inl ⟨vs, ?_, emp xs vs r⟩
    rcases t with ⟨o, t, n⟩ | t
    · exact .inl (.inr ⟨o, t⟩)
    · exact .inr t
  | ref n =>
    have e' : (match h[n]? with | some (.lst xs) => some (!xs.isEmpty) | some (.dct kvs) => some (!kvs.isEmpty) | none => none) = some b := e
    split at e'
    · rename_i xs q
      cases e'
      obtain ⟨a, vs, rfl, _, h1, h2, _⟩ := S.lst q r
      exact .inl ⟨vs, .inl (.inl h1), emp xs vs h2⟩
    · rename_i kvs q
      cases e'
      obtain ⟨a, ha, rfl⟩ := r
      obtain ⟨vs, h1, h2, _⟩ := S.cell n _ a q ha
      refine .inr (.inr ⟨vs, h1, ?_⟩)
      cases kvs with
      | nil => cases (show vs = [] from h2); rfl
      | cons p r => obtain ⟨_, _, rfl, _⟩ := h2; rfl
    · cases e'
  | atm _ => cases e
theorem s_neg {a : Expr} {pos : Pos} {fa : MEnv → MH → Res MV} (ha : PE X a (rdE X W fa)) :
    PE X (.UnaryOp .USub a pos) (rdE X W fun e h => (fa e h).bind fun x h1 => match x with | .int i => .ok (.int (-i)) h1 | _ => .bad) := by
  refine PE.imp (pe_un un_neg ha) fun σ H Q ⟨as, h, e, S, E, p⟩ => ⟨as, h, e, S, E, p.bind fun x h1 as1 H1 v x1 S1 r1 p1 => ?_⟩
  cases x with
  | int i => exact ⟨i, r1, Post.of_ok S1 (show RV X.K as1 H1 (.int (-i)) (.int (-i)) from rfl) p1⟩
  | _ => exact False.elim p1
theorem s_cmp (hu : X.A.units + 65 < cLine) {op : CO} {a b : Expr} {pos : Pos} {fa fb : MEnv → MH → Res MV} (ha : PE X a (rdE X W fa)) (hb : PE X b (rdE X W fb)) (hm : behindInMarks (coOf op) b = false) :
    PE X (.Compare a [coOf op] [b] pos) (rdE X W fun e h => (fa e h).bind fun x h1 => (fb e h1).bind fun y h2 => cmpV op x y h2) := by
  refine PE.imp (pe_cmpR (cmp_any hu op) ha hb hm) fun σ H Q ⟨as, h, e, S, E, p⟩ => ?_
  refine ⟨as, h, e, S, E, p.bind fun x h1 as1 H1 v x1 S1 r1 p1 => ⟨as1, h1, e, S1, E.ext x1, p1.bind fun y h2 as2 H2 w x2 S2 r2 p2 => ?_⟩⟩
  have ok : (∃ z, cmpV op x y h2 = .ok z h2) ∨ cmpV op x y h2 = .bad := (cmpV_ok op x y h2).imp (fun ⟨z, q⟩ => ⟨.bl z, q⟩) id
  obtain ⟨z, ez, q⟩ := p2.pure ok
  exact ⟨as2, h2, x, y, z, S2, RV.ext x2 x v r1, r2, ez, q⟩
theorem s_cmp2 (hu : X.A.units + 65 < cLine) {o1 o2 : CO} {a b c : Expr} {pos : Pos} {fa fb fc : MEnv → MH → Res MV} (ha : PE X a (rdE X W fa)) (hb : PE X b (rdE X W fb)) (hc : PE X c (rdE X W fc)) (hm : lastMarks [coOf o1, coOf o2] [b, c] = false) :
    PE X (.Compare a [coOf o1, coOf o2] [b, c] pos) (rdE X W fun e h => (fa e h).bind fun x h1 => (fb e h1).bind fun y h2 => (cmpV o1 x y h2).bind fun k h3 => match k with
    | .bl true => (fc e h3).bind fun z h4 => cmpV o2 y z h4
    | .bl false => .ok (.bl false) h3
    | _ => .bad) := by
  refine PE.imp (pe_chain (cmp_any hu o1) (cmp_any hu o2) ha hb hc hm) fun σ H Q ⟨as, h, e, S, E, p⟩ => ?_
  refine ⟨as, h, e, S, E, p.bind fun x h1 as1 H1 v x1 S1 r1 p1 => ⟨as1, h1, e, S1, E.ext x1, p1.bind fun y h2 as2 H2 w x2 S2 r2 p2 => ?_⟩⟩
  rcases cmpV_ok o1 x y h2 with ⟨z, q⟩ | q
  · rw [q] at p2
    simp only [Res.bind_ok] at p2
    refine ⟨as2, h2, x, y, .bl z, S2, RV.ext x2 x v r1, r2, q, fun as3 H3 v3 x3 S3 r3 => ⟨z, r3, ?_⟩⟩
    cases z with
    | false =>
      rw [if_neg Bool.false_ne_true]
      exact p2 as3 H3 (.bl false) x3 S3 rfl
    | true =>
      rw [if_pos rfl]
      have p3 : Post X.K X.mg W (RVr X.K) as3 H3 σ Q ((fc e h2).bind fun z h4 => cmpV o2 y z h4) := by
        revert p2
        cases (fc e h2).bind fun z h4 => cmpV o2 y z h4 with
        | ok a h' => exact fun p2 as' H' b x' S' r' => p2 as' H' b (x3.trans x') S' r'
        | exc c f h' => exact fun p2 as' H' cls d x' S' r' => p2 as' H' cls d (x3.trans x') S' r'
        | bad => exact fun p2 => p2
      refine ⟨as3, h2, e, S3, ((E.ext x1).ext x2).ext x3, p3.bind fun z h4 as4 H4 v4 x4 S4 r4 p4 => ?_⟩
      have ok : (∃ k, cmpV o2 y z h4 = .ok k h4) ∨ cmpV o2 y z h4 = .bad := (cmpV_ok o2 y z h4).imp (fun ⟨z, q⟩ => ⟨.bl z, q⟩) id
      obtain ⟨k, ek, q'⟩ := p4.pure ok
      exact ⟨as4, h4, y, z, k, S4, RV.ext x4 y w (RV.ext x3 y w r2), r4, ek, q'⟩
  · rw [q] at p2
    exact False.elim p2
theorem non_iff {K : PySem.W.Frag} {as : Trk} {H : Hp} {x : MV} {v : V} (r : RV K as H x v) (hx : ∀ w, x ≠ .atm w) : decide (v = .non) = (match x with | .non => true | _ => false) := by
  cases x with
  | non => cases (show v = .non from r); rfl
  | bl k => cases (show v = .bl k from r); rfl
  | int i => cases (show v = .int i from r); rfl
  | str y => cases (show v = .str y from r); rfl
  | tup xs => obtain ⟨a, vs, rfl, _⟩ := r; rfl
  | lst xs => obtain ⟨a, vs, rfl, _⟩ := r; rfl
  | scr xs => obtain ⟨a, vs, rfl, _⟩ := r; rfl
  | ref n => obtain ⟨a, _, rfl⟩ := r; rfl
  | atm w => exact absurd rfl (hx w)
theorem s_isN {a : Expr} {pos p2 : Pos} {j : Nat} {fa : MEnv → MH → Res MV} (ha : PE X a (rdE X W fa)) :
    PE X (.Compare a [.Is] [.Constant .none j p2] pos) (rdE X W fun e h => (fa e h).bind fun x h1 => match x with | .atm _ => .bad | .non => .ok (.bl true) h1 | _ => .ok (.bl false) h1) := by
  refine PE.imp (pe_cmp (pc_isN ha)) fun σ H Q ⟨as, h, e, S, E, p⟩ => ⟨as, h, e, S, E, p.bind fun x h1 as1 H1 v x1 S1 r1 p1 => ?_⟩
  cases x with
  | atm w => exact False.elim p1
  | _ =>
    rw [non_iff r1 (fun w z => nomatch z)]
    exact Post.of_ok S1 rfl p1
theorem s_notN {a : Expr} {pos p2 : Pos} {j : Nat} {fa : MEnv → MH → Res MV} (ha : PE X a (rdE X W fa)) :
    PE X (.Compare a [.IsNot] [.Constant .none j p2] pos) (rdE X W fun e h => (fa e h).bind fun x h1 => match x with | .atm _ => .bad | .non => .ok (.bl false) h1 | _ => .ok (.bl true) h1) := by
  refine PE.imp (pe_cmp (pc_notN ha)) fun σ H Q ⟨as, h, e, S, E, p⟩ => ⟨as, h, e, S, E, p.bind fun x h1 as1 H1 v x1 S1 r1 p1 => ?_⟩
  cases x with
  | atm w => exact False.elim p1
  | _ =>
    rw [non_iff r1 (fun w z => nomatch z)]
    exact Post.of_ok S1 rfl p1
theorem s_isB {k : Bool} {a : Expr} {pos p2 : Pos} {j : Nat} {fa : MEnv → MH → Res MV} (ha : PE X a (rdE X W fa)) :
    PE X (.Compare a [.Is] [.Constant (.bool k) j p2] pos) (rdE X W fun e h => (fa e h).bind fun x h1 => match x with | .bl b => .ok (.bl (b == k)) h1 | _ => .bad) := by
  refine PE.imp (pe_cmpR op_isBl ha pe_bl (nomark _)) fun σ H Q ⟨as, h, e, S, E, p⟩ => ⟨as, h, e, S, E, p.bind fun x h1 as1 H1 v x1 S1 r1 p1 => ?_⟩
  cases x with
  | bl b =>
    refine ⟨b, k, r1, rfl, ?_⟩
    have e : decide (b = k) = (b == k) := by cases b <;> cases k <;> rfl
    rw [e]
    exact Post.of_ok S1 rfl p1
  | _ => exact False.elim p1
theorem s_notB {k : Bool} {a : Expr} {pos p2 : Pos} {j : Nat} {fa : MEnv → MH → Res MV} (ha : PE X a (rdE X W fa)) :
    PE X (.Compare a [.IsNot] [.Constant (.bool k) j p2] pos) (rdE X W fun e h => (fa e h).bind fun x h1 => match x with | .bl b => .ok (.bl (!(b == k))) h1 | _ => .bad) := by
  refine PE.imp (pe_cmpR op_notBl ha pe_bl (nomark _)) fun σ H Q ⟨as, h, e, S, E, p⟩ => ⟨as, h, e, S, E, p.bind fun x h1 as1 H1 v x1 S1 r1 p1 => ?_⟩
  cases x with
  | bl b =>
    refine ⟨b, k, r1, rfl, ?_⟩
    have e : decide (b = k) = (b == k) := by cases b <;> cases k <;> rfl
    rw [e]
    exact Post.of_ok S1 rfl p1
  | _ => exact False.elim p1
theorem s_not {a : Expr} {pos : Pos} {fa : MEnv → MH → Res MV} (ha : PE X a (rdE X W fa)) :
    PE X (.UnaryOp .Not a pos) (rdE X W fun e h => (fa e h).bind fun x h1 => match truth h1 x with | some b => .ok (.bl (!b)) h1 | none => .bad) := by
  refine PE.imp (pe_notT ha) fun σ H Q ⟨as, h, e, S, E, p⟩ => ⟨as, h, e, S, E, p.bind fun x h1 as1 H1 v x1 S1 r1 p1 => ?_⟩
  cases ht : truth h1 x with
  | none => rw [ht] at p1; exact False.elim p1
  | some b => rw [ht] at p1; exact ⟨b, truth_TruV S1 ht r1, Post.of_ok S1 rfl p1⟩
theorem s_one {op : BoolOp} {a : Expr} {pos : Pos} {fa : MEnv → MH → Res MV} (ha : PE X a (rdE X W fa)) : PE X (.BoolOp op [a] pos) (rdE X W fun e h => (fa e h).bind fun x h1 => .ok x h1) := by
  refine PE.imp (pe_one ha) fun σ H Q ⟨as, h, e, S, E, p⟩ => ⟨as, h, e, S, E, ?_⟩
  have p : Post X.K X.mg W (RVr X.K) as H σ Q ((fa e h).bind fun x h1 => .ok x h1) := p
  revert p
  cases fa e h <;> exact fun p => p
theorem s_and {a b : Expr} {rest : List Expr} {pos : Pos} {fa fb : MEnv → MH → Res MV} (ha : PE X a (rdE X W fa)) (hb : PE X (.BoolOp .And (b :: rest) pos) (rdE X W fb)) :
    PE X (.BoolOp .And (a :: b :: rest) pos) (rdE X W fun e h => (fa e h).bind fun x h1 => match truth h1 x with | some true => fb e h1 | some false => .ok x h1 | none => .bad) := by
  refine PE.imp (pe_andT ha hb) fun σ H Q ⟨as, h, e, S, E, p⟩ => ⟨as, h, e, S, E, p.bind fun x h1 as1 H1 v x1 S1 r1 p1 => ?_⟩
  cases ht : truth h1 x with
  | none => rw [ht] at p1; exact False.elim p1
  | some b =>
    rw [ht] at p1
    refine ⟨b, truth_TruV S1 ht r1, ?_⟩
    cases b with
    | true => rw [if_pos rfl]; exact ⟨as1, h1, e, S1, E.ext x1, p1⟩
    | false => rw [if_neg Bool.false_ne_true]; exact Post.of_ok S1 r1 p1
theorem s_or {a b : Expr} {rest : List Expr} {pos : Pos} {fa fb : MEnv → MH → Res MV} (ha : PE X a (rdE X W fa)) (hb : PE X (.BoolOp .Or (b :: rest) pos) (rdE X W fb)) :
    PE X (.BoolOp .Or (a :: b :: rest) pos) (rdE X W fun e h => (fa e h).bind fun x h1 => match truth h1 x with | some false => fb e h1 | some true => .ok x h1 | none => .bad) := by
  refine PE.imp (pe_orT ha hb) fun σ H Q ⟨as, h, e, S, E, p⟩ => ⟨as, h, e, S, E, p.bind fun x h1 as1 H1 v x1 S1 r1 p1 => ?_⟩
  cases ht : truth h1 x with
  | none => rw [ht] at p1; exact False.elim p1
  | some b =>
    rw [ht] at p1
    refine ⟨b, truth_TruV S1 ht r1, ?_⟩
    cases b with
    | false => rw [if_neg Bool.false_ne_true]; exact ⟨as1, h1, e, S1, E.ext x1, p1⟩
    | true => rw [if_pos rfl]; exact Post.of_ok S1 r1 p1
theorem s_ite {c a b : Expr} {pos : Pos} {fc : MEnv → MH → Res Bool} {fa fb : MEnv → MH → Res MV} (hc : PT X c (rdB X W fc)) (ha : PE X a (rdE X W fa)) (hb : PE X b (rdE X W fb)) :
    PE X (.IfExp c a b pos) (rdE X W fun e h => (fc e h).bind fun k h1 => if k then fa e h1 else fb e h1) := by
  refine PE.imp (pe_ifExp hc ha hb) fun σ H Q ⟨as, h, e, S, E, p⟩ => ⟨as, h, e, S, E, p.bind fun k h1 as1 H1 b x1 S1 r1 p1 => ?_⟩
  cases r1
  cases k with
  | true => rw [if_pos rfl]; exact ⟨as1, h1, e, S1, E.ext x1, p1⟩
  | false => rw [if_neg Bool.false_ne_true]; exact ⟨as1, h1, e, S1, E.ext x1, p1⟩
/-! ### tests -/
theorem t_val {a : Expr} {fa : MEnv → MH → Res MV} (ha : PE X a (rdE X W fa)) (he : ∀ whole, isTrue a X.env whole = (do let v ← whole; standAt a.pos; holding [v] (truthy v))) :
    PT X a (rdB X W fun e h => (fa e h).bind fun x h1 => match truth h1 x with | some b => .ok b h1 | none => .bad) := by
  refine PT.imp (pt_truth ha he) fun σ H Q ⟨as, h, e, S, E, p⟩ => ⟨as, h, e, S, E, p.bind fun x h1 as1 H1 v x1 S1 r1 p1 => ?_⟩
  cases ht : truth h1 x with
  | none => rw [ht] at p1; exact False.elim p1
  | some b => rw [ht] at p1; exact ⟨b, truth_TruV S1 ht r1, Post.of_ok S1 rfl p1⟩
theorem t_cmp {op : CmpOp} {r : R2} {a b : Expr} {pos : Pos} {ta tb : TE} {f : MEnv → MH → Res MV} (ho : OpR X (compareOp op) r) (ha : PE X a ta) (hb : PE X b tb) (hm : behindInMarks op b = false)
    (hi : ∀ σ H Q, rdE X W f σ H Q → tOp r ta tb σ H Q) (hf : ∀ e h, (∃ z h', f e h = .ok (.bl z) h') ∨ (∀ a h', f e h ≠ .ok a h')) :
    PT X (.Compare a [op] [b] pos) (rdB X W fun e h => (f e h).bind fun x h1 => match truth h1 x with | some b => .ok b h1 | none => .bad) := by
  refine PT.imp (pt_cmpR ho ha hb hm) fun σ H Q ⟨as, h, e, S, E, p⟩ => hi σ H _ ⟨as, h, e, S, E, ?_⟩
  have p : Post X.K X.mg W REq as H σ Q ((f e h).bind fun x h1 => match truth h1 x with | some b => .ok b h1 | none => .bad) := p
  show Post X.K X.mg W (RVr X.K) as H σ _ (f e h)
  cases q : f e h with
  | ok x h1 =>
    rw [q] at p
    rcases hf e h with ⟨z, h', q'⟩ | q'
    · rw [q] at q'
      cases q'
      intro as1 H1 v x1 S1 r1
      exact ⟨z, r1, p as1 H1 z x1 S1 rfl⟩
    · exact absurd q (q' _ _)
  | exc c f h1 => rw [q] at p; exact p
  | bad => rw [q] at p; exact p
theorem t_not {a : Expr} {pos : Pos} {fa : MEnv → MH → Res Bool} (ha : PT X a (rdB X W fa)) : PT X (.UnaryOp .Not a pos) (rdB X W fun e h => (fa e h).bind fun k h1 => .ok (!k) h1) := by
  refine PT.imp (pt_not ha) fun σ H Q ⟨as, h, e, S, E, p⟩ => ⟨as, h, e, S, E, p.bind fun k h1 as1 H1 b x1 S1 r1 p1 => ?_⟩
  cases r1
  exact Post.of_ok S1 rfl p1
theorem t_and1 {a : Expr} {pos : Pos} {fa : MEnv → MH → Res Bool} (ha : PT X a (rdB X W fa)) : PW X (.BoolOp .And [a] pos) (rdB X W fun e h => (fa e h).bind fun k h1 => if k then .ok true h1 else .ok false h1) := by
  refine PW.imp (pw_and1 ha) fun σ H Q ⟨as, h, e, S, E, p⟩ => ⟨as, h, e, S, E, p.bind fun k h1 as1 H1 b x1 S1 r1 p1 => ?_⟩
  cases r1
  cases k <;> exact Post.of_ok S1 rfl p1
theorem t_or1 {a : Expr} {pos : Pos} {fa : MEnv → MH → Res Bool} (ha : PT X a (rdB X W fa)) : PW X (.BoolOp .Or [a] pos) (rdB X W fun e h => (fa e h).bind fun k h1 => if k then .ok true h1 else .ok false h1) := by
  refine PW.imp (pw_or1 ha) fun σ H Q ⟨as, h, e, S, E, p⟩ => ⟨as, h, e, S, E, p.bind fun k h1 as1 H1 b x1 S1 r1 p1 => ?_⟩
  cases r1
  cases k <;> exact Post.of_ok S1 rfl p1
theorem t_and {a b : Expr} {rest : List Expr} {pos : Pos} {fa fb : MEnv → MH → Res Bool} (ha : PT X a (rdB X W fa)) (hb : PW X (.BoolOp .And (b :: rest) pos) (rdB X W fb)) :
    PW X (.BoolOp .And (a :: b :: rest) pos) (rdB X W fun e h => (fa e h).bind fun k h1 => if k then fb e h1 else .ok false h1) := by
  refine PW.imp (pw_and ha hb) fun σ H Q ⟨as, h, e, S, E, p⟩ => ⟨as, h, e, S, E, p.bind fun k h1 as1 H1 b x1 S1 r1 p1 => ?_⟩
  cases r1
  cases k with
  | true => rw [if_pos rfl]; exact ⟨as1, h1, e, S1, E.ext x1, p1⟩
  | false => rw [if_neg Bool.false_ne_true]; exact Post.of_ok S1 rfl p1
theorem t_or {a b : Expr} {rest : List Expr} {pos : Pos} {fa fb : MEnv → MH → Res Bool} (ha : PT X a (rdB X W fa)) (hb : PW X (.BoolOp .Or (b :: rest) pos) (rdB X W fb)) :
    PW X (.BoolOp .Or (a :: b :: rest) pos) (rdB X W fun e h => (fa e h).bind fun k h1 => if k then .ok true h1 else fb e h1) := by
  refine PW.imp (pw_or ha hb) fun σ H Q ⟨as, h, e, S, E, p⟩ => ⟨as, h, e, S, E, p.bind fun k h1 as1 H1 b x1 S1 r1 p1 => ?_⟩
  cases r1
  cases k with
  | false => rw [if_neg Bool.false_ne_true]; exact ⟨as1, h1, e, S1, E.ext x1, p1⟩
  | true => rw [if_pos rfl]; exact Post.of_ok S1 rfl p1
/-! ### lists of expressions -/
theorem a_nil : PA X [] (rdEs X W fun _ h => .ok [] h) := PA.imp pa_nil fun σ H Q ⟨as, h, e, S, E, p⟩ => Post.of_ok S rfl p
theorem a_cons {a : Expr} {es : List Expr} {fa : MEnv → MH → Res MV} {fs : MEnv → MH → Res (List MV)} (ha : PE X a (rdE X W fa)) (hr : PA X es (rdEs X W fs)) (hs : starEach (a :: es) X.env = (false, eval a X.env) :: starEach es X.env) :
    PA X (a :: es) (rdEs X W fun e h => (fa e h).bind fun x h1 => (fs e h1).bind fun xs h2 => .ok (x :: xs) h2) := by
  refine PA.imp (pa_cons ha hr hs) fun σ H Q ⟨as, h, e, S, E, p⟩ => ⟨as, h, e, S, E, p.bind fun x h1 as1 H1 v x1 S1 r1 p1 => ⟨as1, h1, e, S1, E.ext x1, p1.bind fun xs h2 as2 H2 vs x2 S2 r2 p2 => ?_⟩⟩
  exact Post.of_ok S2 (show RVs X.K as2 H2 (x :: xs) (v :: vs) from ⟨v, vs, rfl, RV.ext x2 x v r1, r2⟩) p2
theorem o_none : PO X none (rdO X W fun _ h => .ok none h) := PO.imp po_none fun σ H Q ⟨as, h, e, S, E, p⟩ => Post.of_ok S rfl p
theorem o_some {a : Expr} {fa : MEnv → MH → Res MV} (ha : PE X a (rdE X W fa)) : PO X (some a) (rdO X W fun e h => (fa e h).bind fun x h1 => match x with | .int i => .ok (some i) h1 | _ => .bad) := by
  refine PO.imp (po_some ha) fun σ H Q ⟨as, h, e, S, E, p⟩ => ⟨as, h, e, S, E, p.bind fun x h1 as1 H1 v x1 S1 r1 p1 => ?_⟩
  cases x with
  | int i => exact ⟨i, r1, Post.of_ok S1 rfl p1⟩
  | _ => exact False.elim p1
theorem lenOk_line {n : Nat} (h : lenOk n = true) : n < sizeLine := by
  have := Nat.le_of_ble_eq_true h
  rw [sizeLine_eq]; omega
/-! ### displays, subscripts, slices -/
theorem s_tup {es : List Expr} {k : Nat} {pos : Pos} {fs : MEnv → MH → Res (List MV)} (h : PA X es (rdEs X W fs)) : PE X (.Tuple es k pos) (rdE X W fun e h => (fs e h).bind fun vs h1 => okIf (lenOk vs.length) (.tup vs) h1) := by
  refine PE.imp (pe_tup h) fun σ H Q ⟨as, h, e, S, E, p⟩ => ⟨as, h, e, S, E, p.bind fun xs h1 as1 H1 vs x1 S1 r1 p1 => ?_⟩
  obtain ⟨hl, p1⟩ := p1.okIf
  refine ⟨by rw [← r1.length]; exact Nat.le_of_lt (lenOk_line hl), fun q hq => ?_⟩
  exact p1 as1 _ (.ref q) (Ext.new S1 hq) (S1.new hq) (RV.tupNew S1 hq r1)
theorem atI_RVs {K : PySem.W.Frag} {as : Trk} {H : Hp} {xs : List MV} {vs : List V} {i : Int} {x : MV} (r : RVs K as H xs vs) (h : atI xs i = some x) : ∃ v, atI vs i = some v ∧ RV K as H x v := by
  unfold atI at h ⊢
  rw [← r.length]
  cases hj : ixN xs.length i with
  | none => rw [hj] at h; cases h
  | some j => rw [hj] at h; exact r.get h
theorem plainIx {b : Expr} (h : ∀ l u s p, b ≠ .Slice l u s p) : PlainIx b := fun o i => by
  unfold subscripted
  cases b <;> first | rfl | exact absurd rfl (h _ _ _ _)
theorem s_ix {a b : Expr} {pos : Pos} {fa fb : MEnv → MH → Res MV} (ha : PE X a (rdE X W fa)) (hb : PE X b (rdE X W fb)) (hs : ∀ l u s p, b ≠ .Slice l u s p) :
    PE X (.Subscript a b pos) (rdE X W fun e h => (fa e h).bind fun x h1 => (fb e h1).bind fun y h2 => ixV x y h2) := by
  refine PE.imp (pe_ix ix_seq ha hb (plainIx hs)) fun σ H Q ⟨as, h, e, S, E, p⟩ => ?_
  refine ⟨as, h, e, S, E, p.bind fun x h1 as1 H1 v x1 S1 r1 p1 => ⟨as1, h1, e, S1, E.ext x1, p1.bind fun y h2 as2 H2 w x2 S2 r2 p2 => ?_⟩⟩
  have r1' := RV.ext x2 x v r1
  cases y with
  | int i =>
    have seqCase : ∀ {r : Res MV}, r = (match (seqOf h2 x).bind (atI · i) with | some v => .ok v h2 | none => .bad) → Post X.K X.mg W (RVr X.K) as2 H2 σ Q r → rIx X.K v w H2 Q := fun er p2 => by
      subst er
      cases hx : seqOf h2 x with
      | none => rw [hx] at p2; exact False.elim p2
      | some xs =>
        rw [hx] at p2
        obtain ⟨a, vs, rfl, sq, rv⟩ := S2.seq hx r1'
        cases hi : atI xs i with
        | none => simp only [Option.bind_some, hi] at p2; exact False.elim p2
        | some z =>
          simp only [Option.bind_some, hi] at p2
          obtain ⟨u, h1, h2⟩ := atI_RVs rv hi
          rcases sq with sq | sq
          · exact .inl ⟨a, vs, i, u, rfl, r2, sq, h1, p2.of_ok S2 h2⟩
          · exact .inr (.inl ⟨a, vs, i, u, rfl, r2, sq, h1, p2.of_ok S2 h2⟩)
    cases x with
    | str z =>
      have p2' : Post X.K X.mg W (RVr X.K) as2 H2 σ Q (match if z.cps.size ≤ sizeLine then atI z.cps.toList i else none with | some c => .ok (.str ⟨#[c]⟩) h2 | none => .bad) := p2
      split at p2'
      · rename_i c hc
        split at hc
        · rename_i hl
          exact .inr (.inr ⟨z, i, c, r1', r2, hl, hc, p2'.of_ok S2 rfl⟩)
        · cases hc
      · exact False.elim p2'
    | _ => exact seqCase rfl p2
  | _ => cases x <;> exact False.elim p2
theorem cut_RVs {K : PySem.W.Frag} {as : Trk} {H : Hp} {xs : List MV} {vs : List V} (r : RVs K as H xs vs) (lo hi : Option Int) : RVs K as H (cutM xs lo hi) (cutV vs lo hi) := by
  unfold cutM cutV
  rw [r.length]
  exact (r.drop _).take _
theorem cutV_whole {vs : List V} {lo hi : Option Int} (h : HT.sIx vs.length 0 lo = 0 ∧ HT.sIx vs.length vs.length hi = vs.length) : cutV vs lo hi = vs := by
  unfold cutV
  rw [h.1, h.2]
  simp
theorem s_sl {a : Expr} {lo hi : Option Expr} {p2 pos : Pos} {fa : MEnv → MH → Res MV} {fl fh : MEnv → MH → Res (Option Int)} (ha : PE X a (rdE X W fa)) (hl : PO X lo (rdO X W fl)) (hh : PO X hi (rdO X W fh)) :
    PE X (.Subscript a (.Slice lo hi none p2) pos) (rdE X W fun e h => (fa e h).bind fun x h1 => (fl e h1).bind fun l h2 => (fh e h2).bind fun u h3 => slV x l u h3) := by
  refine PE.imp (pe_slice sl_tupA ha hl hh) fun σ H Q ⟨as, h, e, S, E, p⟩ => ?_
  refine ⟨as, h, e, S, E, p.bind fun x h1 as1 H1 v x1 S1 r1 p1 => ⟨as1, h1, e, S1, E.ext x1, p1.bind fun l h2 as2 H2 l' x2 S2 r2 p2 => ⟨as2, h2, e, S2, (E.ext x1).ext x2, p2.bind fun u h3 as3 H3 u' x3 S3 r3 p3 => ?_⟩⟩⟩
  cases r2
  cases r3
  have r1' := RV.ext x3 x v (RV.ext x2 x v r1)
  cases x with
  | tup xs =>
    have p3' : Post X.K X.mg W (RVr X.K) as3 H3 σ Q (.ok (.tup (cutM xs l u)) h3) := p3
    obtain ⟨a, vs, rfl, t, r⟩ := r1'
    refine ⟨a, vs, rfl, t.sq, fun w => ?_, fun w q hq => ?_⟩
    · refine p3'.of_ok S3 ⟨a, vs, rfl, t, ?_⟩
      have := cut_RVs r l u
      rw [cutV_whole w] at this
      exact this
    · exact p3' as3 _ (.ref q) (Ext.new S3 hq) (S3.new hq) (RV.tupNew S3 hq (cut_RVs r l u))
  | _ => exact False.elim p3
end
end MM
set_option Elab.async false
set_option linter.all false
set_option maxRecDepth 100000
/-! M7: new lists, calls, built-ins, methods. -/
namespace MM
open PySem PySem.Spec PyProof.Rows L2
/-- a list just made that is nobody's yet; H0: the heap ahead of it -/
def RFr (K : PySem.W.Frag) (H0 : Hp) : Trk → Hp → List MV → V → Prop := fun as' H' xs v => ∃ p vs, v = .ref p ∧ RVs K as' H' xs vs ∧ H0 p = none ∧ H' p = some (.lst vs) ∧ p ∉ as'
def rdF (X : Cx) (W : WX) (f : MEnv → MH → Res (List MV)) : TE := fun σ H Q => ∃ as h e, Sim X.K as H h ∧ EnvR X.K as H e σ ∧ Post X.K X.mg W (RFr X.K H) as H σ Q (f e h)
section
variable {K : PySem.W.Frag} {as as1 : Trk} {H H1 : Hp} {h h1 : MH} {p : Addr} {xs : List MV} {vs : List V}
theorem RFr.new (S : Sim K as H h) (x1 : Ext as H as1 H1) (S1 : Sim K as1 H1 h1) (hp : H1 p = none) (r : RVs K as1 H1 xs vs) : RFr K H as1 (upd H1 p (.lst vs)) xs (.ref p) :=
  ⟨p, vs, rfl, RVs.ext (Ext.new S1 hp) _ _ r, Ext.none S x1 S1 hp, upd_same, S1.fresh hp⟩
end
section
variable {X : Cx} {W : WX} {G : Callee}
abbrev rE (X : Cx) (W : WX) (G : Callee) (m : ME) : TE := rdE X W fun e h => evE G m e h
abbrev rEs (X : Cx) (W : WX) (G : Callee) (m : MEs) : TA := rdEs X W fun e h => evEs G m e h
abbrev rB (X : Cx) (W : WX) (G : Callee) (m : MB) : TT := rdB X W fun e h => evB G m e h
abbrev rO (X : Cx) (W : WX) (G : Callee) (m : MO) : TO := rdO X W fun e h => evO G m e h
abbrev rF (X : Cx) (W : WX) (G : Callee) (m : MF) : TE := rdF X W fun e h => evF G m e h
theorem s_fr {e : Expr} {f : MEnv → MH → Res (List MV)} (hf : PE X e (rdF X W f)) : PE X e (rdE X W fun e h => (f e h).bind fun xs h1 => .ok (.lst xs) h1) := by
  refine PE.imp hf fun σ H Q ⟨as, h, e, S, E, p⟩ => ⟨as, h, e, S, E, p.bind fun xs h1 as1 H1 v x1 S1 r1 p1 => ?_⟩
  obtain ⟨q, vs, rfl, rv, _, hq, hn⟩ := r1
  exact Post.of_ok S1 (show RV X.K as1 H1 (.lst xs) (.ref q) from ⟨q, vs, rfl, hq, hn, rv⟩) p1
theorem s_box {e : Expr} {f : MEnv → MH → Res (List MV)} (hf : PE X e (rdF X W f)) : PE X e (rdE X W fun e h => (f e h).bind fun xs h1 => okIf (fltL xs) (.ref h1.length) (h1 ++ [.lst xs])) := by
  refine PE.imp hf fun σ H Q ⟨as, h, e, S, E, p⟩ => ⟨as, h, e, S, E, ?_⟩
  have p' : Post X.K X.mg W (RVr X.K) as H σ Q ((f e h).bind fun xs h1 => okIf (fltL xs) (.ref h1.length) (h1 ++ [.lst xs])) := p
  clear p
  cases q : f e h with
  | ok xs h1 =>
    rw [q] at p'
    obtain ⟨hl, p1⟩ := Post.okIf (show Post X.K X.mg W (RVr X.K) as H σ Q (okIf (fltL xs) (.ref h1.length) (h1 ++ [.lst xs])) from p')
    intro as1 H1 v x1 S1 r1
    obtain ⟨q, vs, rfl, rv, h0, hq, hn⟩ := r1
    exact p1 (as1.push q) H1 (.ref q) (Ext.box x1 h0) (S1.box hq hn rv hl) (RV.boxNew S1)
  | exc c f h1 => rw [q] at p'; exact p'
  | bad => rw [q] at p'; exact p'
theorem f_disp {es : List Expr} {pos : Pos} {fs : MEnv → MH → Res (List MV)} (h : PA X es (rdEs X W fs)) : PE X (.List es pos) (rdF X W fun e h => (fs e h).bind fun vs h1 => okIf (lenOk vs.length) vs h1) := by
  refine PE.imp (pe_lst h) fun σ H Q ⟨as, h, e, S, E, p⟩ => ⟨as, h, e, S, E, p.bind fun xs h1 as1 H1 vs x1 S1 r1 p1 => ?_⟩
  obtain ⟨hl, p1⟩ := p1.okIf
  refine ⟨by rw [← r1.length]; exact Nat.le_of_lt (lenOk_line hl), fun q hq => ?_⟩
  exact p1 as1 _ (.ref q) (Ext.new S1 hq) (S1.new hq) (RFr.new S x1 S1 hq r1)
theorem bt_list : bootBuiltins "list" = some (.type "list") := by decide +kernel
/-- one argument, two, behind each other -/
def tA1 (t : TE) : TA := fun σ H Q => t σ H fun v H1 => Q [v] H1
theorem a_one {a : Expr} {t : TE} (ha : PE X a t) (hs : starEach [a] X.env = (false, eval a X.env) :: starEach [] X.env) : PA X [a] (tA1 t) := PA.imp (pa_cons ha pa_nil hs) fun σ H Q q => q
theorem f_toList {a : Expr} {p pos : Pos} {fa : MEnv → MH → Res MV} (hg : Gl X "list") (hm : X.mg "list" = none) (ha : PE X a (rdE X W fa)) (hs : starEach [a] X.env = (false, eval a X.env) :: starEach [] X.env) :
    PE X (.Call (.Name "list" p) [a] [] pos) (rdF X W fun e h => (fa e h).bind fun x h1 => match seqOf h1 x with | some xs => .ok xs h1 | none => .bad) := by
  refine PE.imp (pe_callTy call_list_of hg hm bt_list (a_one ha hs) (by decide) (by decide) hs rfl) fun σ H Q ⟨as, h, e, S, E, p⟩ => ⟨as, h, e, S, E, p.bind fun x h1 as1 H1 v x1 S1 r1 p1 => ?_⟩
  cases q : seqOf h1 x with
  | none => rw [q] at p1; exact False.elim p1
  | some xs =>
    rw [q] at p1
    obtain ⟨a, vs, rfl, sq, rv⟩ := S1.seq q r1
    exact ⟨a, vs, rfl, sq, fun l hl => p1 as1 _ (.ref l) (Ext.new S1 hl) (S1.new hl) (RFr.new S x1 S1 hl rv)⟩
theorem f_cat {a b : Expr} {pos : Pos} {fa fb : MEnv → MH → Res MV} (ha : PE X a (rdE X W fa)) (hb : PE X b (rdE X W fb)) :
    PE X (.BinOp a .Add b pos) (rdF X W fun e h => (fa e h).bind fun x h1 => (fb e h1).bind fun y h2 => match derf h2 x, derf h2 y with
    | .lst xs, .lst ys => okIf (lenOk (xs.length + ys.length)) (xs ++ ys) h2
    | _, _ => .bad) := by
  refine PE.imp (pe_op op_cat ha hb) fun σ H Q ⟨as, h, e, S, E, p⟩ => ?_
  refine ⟨as, h, e, S, E, p.bind fun x h1 as1 H1 v x1 S1 r1 p1 => ⟨as1, h1, e, S1, E.ext x1, p1.bind fun y h2 as2 H2 w x2 S2 r2 p2 => ?_⟩⟩
  cases q1 : derf h2 x with
  | lst xs =>
    cases q2 : derf h2 y with
    | lst ys =>
      rw [q1, q2] at p2
      obtain ⟨hl, p2⟩ := p2.okIf
      have hl' := lenOk_line hl
      obtain ⟨a, vs, rfl, ha, rva⟩ := S2.derfL q1 (RV.ext x2 x v r1)
      obtain ⟨b, ws, rfl, hb, rvb⟩ := S2.derfL q2 r2
      exact ⟨a, b, vs, ws, rfl, rfl, ha, hb, by rw [← rva.length, ← rvb.length]; exact Nat.le_of_lt hl', fun l hl => p2 as2 _ (.ref l) (Ext.new S2 hl) (S2.new hl) (RFr.new S (x1.trans x2) S2 hl (rva.append rvb))⟩
    | _ => rw [q1, q2] at p2; exact False.elim p2
  | _ => rw [q1] at p2; exact False.elim p2
theorem f_rep {a b : Expr} {pos : Pos} {fa fb : MEnv → MH → Res MV} (ha : PE X a (rdE X W fa)) (hb : PE X b (rdE X W fb)) :
    PE X (.BinOp a .Mult b pos) (rdF X W fun e h => (fa e h).bind fun x h1 => (fb e h1).bind fun y h2 => match derf h2 x, y with
    | .lst xs, .int k => okIf (decide (0 ≤ k) && decide (k ≤ 1000000) && lenOk (xs.length * k.toNat)) (List.replicate k.toNat xs).flatten h2
    | _, _ => .bad) := by
  refine PE.imp (pe_op op_rep ha hb) fun σ H Q ⟨as, h, e, S, E, p⟩ => ?_
  refine ⟨as, h, e, S, E, p.bind fun x h1 as1 H1 v x1 S1 r1 p1 => ⟨as1, h1, e, S1, E.ext x1, p1.bind fun y h2 as2 H2 w x2 S2 r2 p2 => ?_⟩⟩
  cases q1 : derf h2 x with
  | lst xs =>
    cases y with
    | int k =>
      rw [q1] at p2
      obtain ⟨hl, p2⟩ := p2.okIf
      simp only [Bool.and_eq_true, decide_eq_true_eq] at hl
      obtain ⟨⟨l1, l2⟩, l3⟩ := hl
      have hl' := lenOk_line l3
      obtain ⟨a, vs, rfl, ha, rva⟩ := S2.derfL q1 (RV.ext x2 x v r1)
      exact ⟨a, k, vs, rfl, r2, ha, by omega, by omega, by rw [← rva.length]; exact Nat.le_of_lt hl', fun l hl => p2 as2 _ (.ref l) (Ext.new S2 hl) (S2.new hl) (RFr.new S (x1.trans x2) S2 hl (rva.rep _))⟩
    | _ => rw [q1] at p2; exact False.elim p2
  | _ => rw [q1] at p2; exact False.elim p2
theorem f_cut {a : Expr} {lo hi : Option Expr} {p2 pos : Pos} {fa : MEnv → MH → Res MV} {fl fh : MEnv → MH → Res (Option Int)} (ha : PE X a (rdE X W fa)) (hl : PO X lo (rdO X W fl)) (hh : PO X hi (rdO X W fh)) :
    PE X (.Subscript a (.Slice lo hi none p2) pos) (rdF X W fun e h => (fa e h).bind fun x h1 => (fl e h1).bind fun l h2 => (fh e h2).bind fun u h3 => match derf h3 x with | .lst xs => .ok (cutM xs l u) h3 | _ => .bad) := by
  refine PE.imp (pe_slice sl_list ha hl hh) fun σ H Q ⟨as, h, e, S, E, p⟩ => ?_
  refine ⟨as, h, e, S, E, p.bind fun x h1 as1 H1 v x1 S1 r1 p1 => ⟨as1, h1, e, S1, E.ext x1, p1.bind fun l h2 as2 H2 l' x2 S2 r2 p2 => ⟨as2, h2, e, S2, (E.ext x1).ext x2, p2.bind fun u h3 as3 H3 u' x3 S3 r3 p3 => ?_⟩⟩⟩
  cases r2
  cases r3
  have r1' := RV.ext x3 x v (RV.ext x2 x v r1)
  cases q1 : derf h3 x with
  | lst xs =>
    rw [q1] at p3
    obtain ⟨a, vs, rfl, ha, rva⟩ := S3.derfL q1 r1'
    exact ⟨a, vs, rfl, .inl (.inl ha), fun q hq => p3 as3 _ (.ref q) (Ext.new S3 hq) (S3.new hq) (RFr.new S ((x1.trans x2).trans x3) S3 hq (cut_RVs rva l u))⟩
  | _ => rw [q1] at p3; exact False.elim p3
/-! ### calls -/
/-- exceptions, whatever the slots -/
abbrev wOf (E : XK) : WX := fun cls d _ H => E cls d H
theorem Post.sw {α β : Type} {K : PySem.W.Frag} {mg : Str → Option Value} {W : WX} {R : Trk → Hp → α → β → Prop} {as : Trk} {H : Hp} {σ τ : L2.St} {Q : β → Hp → Prop} {r : Res α} (p : Post K mg W R as H σ Q r) : Post K mg (wOf (WE W σ)) R as H τ Q r := by
  cases r with
  | ok a h => exact p
  | exc c f h => exact p
  | bad => exact p
theorem Post.sw' {α β : Type} {K : PySem.W.Frag} {mg : Str → Option Value} {E : XK} {R : Trk → Hp → α → β → Prop} {as : Trk} {H : Hp} {σ τ : L2.St} {Q : β → Hp → Prop} {r : Res α} (p : Post K mg (wOf E) R as H σ Q r) : Post K mg (wOf E) R as H τ Q r := by
  cases r with
  | ok a h => exact p
  | exc c f h => exact p
  | bad => exact p
/-- what a def of ours promises -/
def spM (K : PySem.W.Frag) (mg : Str → Option Value) (n : Nat) (g : List MV → MH → Res MV) : Sp := fun vs H Q E => vs.length = n ∧ ∃ as h ms, Sim K as H h ∧ RVs K as H ms vs ∧ Post K mg (wOf E) (RVr K) as H [] Q (g ms h)
/-- room, and nothing under way that repr would shorten -/
structure RoomG (k : Nat) (A : Around) : Prop where
  room : Room k A
  gd : A.guards = some []
/-- a def keeps its promise where nothing is under way -/
structure FnG (P : Program) (w : World) (K : PySem.W.Frag) (mg : Str → Option Value) (base : Heap) (k : Nat) (f : Addr) (fd : FuncData) (ps : List Str) (sp : Sp) : Prop where
  len : ∀ vs H Q E, sp vs H Q E → vs.length = ps.length
  run : ∀ (A : Around) (outer : List Env) (s : Shared) (H : Hp) (args : Args) (us : List Value) (vs : List V) (Q : VK) (E : XK), RoomG k A → Env0 P w K mg base A outer s H → BindsTo s fd args (ps.zip us) → Vals vs us → sp vs H Q E →
    codeAny (model P w) A (.call (.ref f) args) (CR (L2.CX P w) outer P w H s Q E) s
theorem FnG.goes {k : Nat} {f : Addr} {fd : FuncData} {ps : List Str} {sp : Sp} {W : WX} {pins : List (Addr × Obj)} {σ : L2.St} {H : Hp} {s : Shared} {Q : VK} {us : List Value} {vs : List V} (F : FnG X.prog X.w X.K X.mg X.base k f fd ps sp) (hr : RoomG k X.A) (hb : Binds X.K fd ps [])
    (tk : Takes X W) (I : Inv X pins σ H s) (r : Vals vs us) (h : sp vs H Q (WE W σ)) : wpAny (model X.prog X.w) X.A (call (.ref f) us) (EP X pins σ Q) X.xe s := by
  have hl : us.length = ps.length := by rw [← r.length]; exact F.len _ _ _ _ h
  have b := hb s us I.kIn (by rw [List.append_nil]; exact hl)
  rw [List.append_nil] at b
  refine wpAny_call (codeAny_mono (F.run X.A X.stack s H ⟨us, []⟩ us vs Q (WE W σ) hr I.env0 b r h) fun r s' hq => ?_)
  cases r with
  | error e => exact passAt tk σ pins H s e s' I hq
  | ok fl =>
    cases fl with
    | ret u => exact I.after hq
    | next => exact False.elim hq
    | brk => exact False.elim hq
    | cont => exact False.elim hq
/-- a def that may be called -/
def Cal (P : Program) (w : World) (K : PySem.W.Frag) (mg : Str → Option Value) (base : Heap) (k : Nat) (G : Callee) (i : Nat) (x : Str) : Prop :=
  ∃ f fd ps, FnG P w K mg base k f fd ps (spM K mg ps.length (G i)) ∧ mg x = some (.ref f) ∧ PySem.W.keepIn K (.ref f) = true ∧ Binds K fd ps [] ∧ ∀ ms h, ms.length ≠ ps.length → G i ms h = .bad
theorem s_call {k i : Nat} {x : Str} {e : Expr} {es : List Expr} {p pos : Pos} {fs : MEnv → MH → Res (List MV)} (C : Cal X.prog X.w X.K X.mg X.base k G i x) (hr : RoomG k X.A) (tk : Takes X W) (hg : Gl X x) (ha : PA X (e :: es) (rdEs X W fs))
    (hdb : (x == ("__debug__" : Str)) = false) (he : starEach (e :: es) X.env = (false, eval e X.env) :: starEach es X.env) (hpl : (backTo pos (starEach es X.env)).any (·.1) = false) :
    PE X (.Call (.Name x p) (e :: es) [] pos) (rdE X W fun e h => (fs e h).bind fun vs h1 => G i vs h1) := by
  obtain ⟨f, fd, ps, F, hm, hk, hb, hn⟩ := C
  have core : PE X (.Call (.Name x p) (e :: es) [] pos) (tCallS (spM X.K X.mg ps.length (G i)) (WE W) (rdEs X W fs)) := by
    refine ⟨fun pins s σ H Q I h => ?_⟩
    refine wpAny_Call_Name_kw (ld_glob I hg hm ?_ hdb)
    refine PySem.W.callWith_K (h₀ := X.base) I.ok.mod.kin hk (thn (ha.run pos pins s σ H _ I h) fun us s1 ⟨vs, H1, I1, r, q⟩ => ⟨I1.kIn, ?_⟩) he hpl
    exact F.goes hr hb tk I1 r q
  refine PE.imp core fun σ H Q ⟨as, h, e, S, E, p⟩ => ⟨as, h, e, S, E, ?_⟩
  have p' : Post X.K X.mg W (RVr X.K) as H σ Q ((fs e h).bind fun vs h1 => G i vs h1) := p
  clear p
  cases q : fs e h with
  | bad => rw [q] at p'; exact p'
  | exc c f h1 => rw [q] at p'; exact p'
  | ok ms h1 =>
    rw [q] at p'
    have p1 : Post X.K X.mg W (RVr X.K) as H σ Q (G i ms h1) := p'
    intro as1 H1 vs x1 S1 r1
    have p2 : Post X.K X.mg W (RVr X.K) as1 H1 σ Q (G i ms h1) := by
      revert p1
      cases G i ms h1 with
      | ok a2 h2 => intro p' as2 H2 b2 E2 S2 r2; exact p' as2 H2 b2 (x1.trans E2) S2 r2
      | exc x f h2 => intro p' as2 H2 cls d E2 S2 r2; exact p' as2 H2 cls d (x1.trans E2) S2 r2
      | bad => intro p'; exact p'
    have hl : ms.length = ps.length := by
      apply Classical.byContradiction
      intro z
      rw [hn ms h1 z] at p1
      exact p1
    exact ⟨by rw [← r1.length]; exact hl, as1, h1, ms, S1, r1, p2.sw⟩
/-- f() -/
theorem s_call0 {k i : Nat} {x : Str} {p pos : Pos} (C : Cal X.prog X.w X.K X.mg X.base k G i x) (hr : RoomG k X.A) (tk : Takes X W) (hg : Gl X x) (hdb : (x == ("__debug__" : Str)) = false) :
    PE X (.Call (.Name x p) [] [] pos) (rdE X W fun e h => G i [] h) := by
  obtain ⟨f, fd, ps, F, hm, hk, hb, hn⟩ := C
  refine ⟨fun pins s σ H Q I ⟨as, h, e, S, E, p⟩ => ?_⟩
  refine wpAny_Call_Name_kw (ld_glob I hg hm ?_ hdb)
  have p : Post X.K X.mg W (RVr X.K) as H σ Q (G i [] h) := p
  have hl : ([] : List MV).length = ps.length := by
    apply Classical.byContradiction
    intro z
    rw [hn [] h z] at p
    exact p
  exact PySem.W.callWith_K0 I.kIn hk (F.goes (us := []) hr hb tk I .nil ⟨hl, as, h, [], S, rfl, p.sw⟩)
/-! ### built-ins -/
def biNm : BI → Str
  | .len => "len" | .sum => "sum" | .abs => "abs" | .max2 => "max" | .min2 => "min" | .maxL => "max" | .minL => "min" | .all => "all" | .any => "any" | .tup => "tuple" | .toInt => "int"
theorem bi_in {b : BI} {fs : MEnv → MH → Res (List MV)} {σ : L2.St} {H : Hp} {Q : VK} (q : rdE X W (fun e h => (fs e h).bind fun vs h1 => biV b vs h1) σ H Q) : tCB (rC X (biV b)) (rdEs X W fs) σ H Q := by
  obtain ⟨as, h, e, S, E, p⟩ := q
  refine ⟨as, h, e, S, E, p.bind fun vs h1 as1 H1 us x1 S1 r1 p1 => ?_⟩
  obtain ⟨z, ez, q⟩ := p1.pure (biV_ok b vs h1)
  exact ⟨as1, h1, vs, z, S1, r1, ez, q⟩
theorem s_bi {b : BI} {x : Str} {e : Expr} {es : List Expr} {p pos : Pos} {fs : MEnv → MH → Res (List MV)} (hc : X.calm = true) (hx : biNm b = x) (hg : Gl X x) (hm : X.mg x = none) (ha : PA X (e :: es) (rdEs X W fs))
    (he : starEach (e :: es) X.env = (false, eval e X.env) :: starEach es X.env) (hpl : (backTo pos (starEach es X.env)).any (·.1) = false) :
    PE X (.Call (.Name x p) (e :: es) [] pos) (rdE X W fun e h => (fs e h).bind fun vs h1 => biV b vs h1) := by
  subst hx
  cases b with
  | tup => exact PE.imp (pe_callTy (call_biM hc .tup) hg hm (by decide +kernel) ha (by decide) (by decide) he hpl) fun σ H Q q => bi_in q
  | toInt => exact PE.imp (pe_callTy (call_biM hc .toInt) hg hm (by decide +kernel) ha (by decide) (by decide) he hpl) fun σ H Q q => bi_in q
  | len => exact PE.imp (pe_callB (call_biM hc .len) hg hm (by decide +kernel) ha (by decide) (by decide) he hpl) fun σ H Q q => bi_in q
  | sum => exact PE.imp (pe_callB (call_biM hc .sum) hg hm (by decide +kernel) ha (by decide) (by decide) he hpl) fun σ H Q q => bi_in q
  | abs => exact PE.imp (pe_callB (call_biM hc .abs) hg hm (by decide +kernel) ha (by decide) (by decide) he hpl) fun σ H Q q => bi_in q
  | max2 => exact PE.imp (pe_callB (call_biM hc .max2) hg hm (by decide +kernel) ha (by decide) (by decide) he hpl) fun σ H Q q => bi_in q
  | min2 => exact PE.imp (pe_callB (call_biM hc .min2) hg hm (by decide +kernel) ha (by decide) (by decide) he hpl) fun σ H Q q => bi_in q
  | maxL => exact PE.imp (pe_callB (call_biM hc .maxL) hg hm (by decide +kernel) ha (by decide) (by decide) he hpl) fun σ H Q q => bi_in q
  | minL => exact PE.imp (pe_callB (call_biM hc .minL) hg hm (by decide +kernel) ha (by decide) (by decide) he hpl) fun σ H Q q => bi_in q
  | all => exact PE.imp (pe_callB (call_biM hc .all) hg hm (by decide +kernel) ha (by decide) (by decide) he hpl) fun σ H Q q => bi_in q
  | any => exact PE.imp (pe_callB (call_biM hc .any) hg hm (by decide +kernel) ha (by decide) (by decide) he hpl) fun σ H Q q => bi_in q
def tyNm : TyN → String | .int => "int" | .bool => "bool" | .tuple => "tuple" | .str => "str" | .list => "list"
def vTy : MV → String | .non => "NoneType" | .bl _ => "bool" | .int _ => "int" | .str _ => "str" | .tup _ => "tuple" | .lst _ => "list" | _ => ""
theorem kitTab : ∀ t : TyN, kitB "NoneType" (tyNm t) = some false ∧ kitB "bool" (tyNm t) = some (t == .bool || t == .int) ∧ kitB "int" (tyNm t) = some (t == .int) ∧ kitB "str" (tyNm t) = some (t == .str) ∧
    kitB "tuple" (tyNm t) = some (t == .tuple) ∧ kitB "list" (tyNm t) = some (t == .list)
  | .int => by decide +kernel
  | .bool => by decide +kernel
  | .tuple => by decide +kernel
  | .str => by decide +kernel
  | .list => by decide +kernel
theorem tyOf_kit (t : TyN) (x : MV) (h : MH) (b : Bool) (e : tyOf t x h = some b) : kitB (vTy x) (tyNm t) = some b := by
  obtain ⟨t1, t2, t3, t4, t5, t6⟩ := kitTab t
  cases x with
  | non => exact t1.trans e
  | bl k => exact t2.trans e
  | int k => exact t3.trans e
  | str k => exact t4.trans e
  | tup k => exact t5.trans e
  | lst k => exact t6.trans e
  | _ => cases e
theorem s_isi {t : TyN} {a : Expr} {x : Str} {p p1 pos : Pos} {fa : MEnv → MH → Res MV} (hx : (tyNm t : Str) = x) (hg : Gl X "isinstance") (hm : X.mg "isinstance" = none) (hg1 : Gl X x) (hm1 : X.mg x = none) (ha : PE X a (rdE X W fa))
    (he : starEach [a, .Name x p1] X.env = (false, eval a X.env) :: starEach [.Name x p1] X.env) (hpl : (backTo pos (starEach [.Name x p1] X.env)).any (·.1) = false) (he1 : starEach [.Name x p1] X.env = (false, eval (.Name x p1) X.env) :: starEach [] X.env) :
    PE X (.Call (.Name "isinstance" p) [a, .Name x p1] [] pos) (rdE X W fun e h => (fa e h).bind fun x h1 => match tyOf t x h1 with | some b => .ok (.bl b) h1 | none => .bad) := by
  subst hx
  have hT : PE X (.Name (tyNm t : Str) p1) (tC (.ty (tyNm t))) := by
    refine pe_bltn hg1 hm1 (u := .type (tyNm t)) ?_ rfl ?_ ?_
    · cases t <;> decide +kernel
    · cases t <;> decide
    · cases t <;> decide
  refine PE.imp (pe_callB call_isi hg hm (by decide +kernel) (pa_cons ha (a_one hT he1) he) (by decide) (by decide) he hpl) fun σ H Q ⟨as, h, e, S, E, p⟩ => ⟨as, h, e, S, E, p.bind fun x h1 as1 H1 v x1 S1 r1 p1 => ?_⟩
  cases q : tyOf t x h1 with
  | none => rw [q] at p1; exact False.elim p1
  | some b =>
    rw [q] at p1
    refine ⟨v, .ty (tyNm t), .type (vTy x), .type (tyNm t), b, rfl, .ty _, ?_, kit_ty (tyOf_kit t x h1 b q), Post.of_ok S1 rfl p1⟩
    cases x with
    | non => cases (show v = .non from r1); exact .base .non
    | bl k => cases (show v = .bl k from r1); exact .base (.bl k)
    | int i => cases (show v = .int i from r1); exact .base (.int i)
    | str y => cases (show v = .str y from r1); exact .base (.str y)
    | tup xs => 
      obtain ⟨a, vs, rfl, t, _⟩ := r1
      rcases t with ⟨t, _⟩ | ⟨o, its, n, k, c, _⟩
      · exact .base (.tup t)
      · exact .kTuple k c
    | lst xs => obtain ⟨a, vs, rfl, t, _⟩ := r1; exact .base (.lst t)
    | _ => cases q
/-! ### a list's methods -/
theorem fltL_append : ∀ {xs ys : List MV}, fltL xs = true → fltL ys = true → fltL (xs ++ ys) = true
  | [], ys, _, h => h
  | x :: xs, ys, h, h2 => by
    simp only [fltL, Bool.and_eq_true, List.cons_append] at h ⊢
    exact ⟨h.1, fltL_append h.2 h2⟩
theorem fltL_dropLast : ∀ {xs : List MV}, fltL xs = true → fltL xs.dropLast = true
  | [], _ => rfl
  | [x], _ => rfl
  | x :: y :: xs, h => by
    simp only [fltL, Bool.and_eq_true, List.dropLast_cons₂] at h ⊢
    exact ⟨h.1, fltL_dropLast (xs := y :: xs) (by simp only [fltL, Bool.and_eq_true]; exact h.2)⟩
theorem mt_appendM : ∀ {as1 as2 : Trk} {H1 H2 : Hp} {h2 : MH} {x y : MV} {v w : V} {σ : L2.St} {Q : VK}, RV X.K as2 H2 x v → Sim X.K as2 H2 h2 → RV X.K as2 H2 y w → Post X.K X.mg W (RVr X.K) as2 H2 σ Q (appendV x y h2) → rAppend v [w] H2 Q := by
  intro as1 as2 H1 H2 h2 x y v w σ Q r1 S2 r2 p2
  cases x with
  | ref n =>
    have p2 : Post X.K X.mg W (RVr X.K) as2 H2 σ Q (match h2[n]? with
      | some (.lst xs) => okIf (flt y && lenOk xs.length) .non (h2.set n (.lst (xs ++ [y])))
      | _ => .bad) := p2
    split at p2
    · rename_i xs q
      obtain ⟨hl, p2⟩ := p2.okIf
      rw [Bool.and_eq_true] at hl
      obtain ⟨a, vs, rfl, ha, hH, rv, fl⟩ := S2.lst q r1
      refine ⟨a, vs, w, rfl, rfl, hH, by rw [← rv.length]; exact lenOk_line hl.2, ?_⟩
      exact p2 as2 _ .non (Ext.put S2 (List.mem_of_getElem? ha)) (S2.put ha (rv.append (RVs.one r2)) (fltL_append fl (by simp [fltL, hl.1]))) rfl
    · exact False.elim p2
  | _ => exact False.elim p2
theorem s_append {o a : Expr} {apos pos : Pos} {fo fa : MEnv → MH → Res MV} (ho : PE X o (rdE X W fo)) (ha : PE X a (rdE X W fa)) (hbase : attributeBase o "append" X.env (eval o X.env) = eval o X.env)
    (hfew : ((backTo pos (starEach [a] X.env)).all (fun x => !x.1) && (backToKw pos (keywordEach [] X.env)).all (fun x => x.1.isSome)
      && decide ([a].length + ([] : List Keyword).length + (if ([] : List Keyword).isEmpty then 0 else 1) < 30)) = true)
    (hline : (apos.endLine == pos.line) = true) (hs : starEach [a] X.env = (false, eval a X.env) :: starEach [] X.env) :
    PE X (.Call (.Attribute o "append" apos) [a] [] pos) (rdE X W fun e h => (fo e h).bind fun x h1 => match derf h1 x with
    | .lst _ => (fa e h1).bind fun v h2 => appendV x v h2
    | _ => .bad) := by
  refine PE.imp (pe_bm PySem.F.plainAttrs_list PySem.F.slot_list_append PySem.F.type_list_append mt_append ho (a_one ha hs) hbase hfew hline hs rfl) fun σ H Q ⟨as, h, e, S, E, p⟩ => ?_
  refine ⟨as, h, e, S, E, p.bind fun x h1 as1 H1 v x1 S1 r1 p1 => ?_⟩
  cases q : derf h1 x with
  | lst xs =>
    rw [q] at p1
    obtain ⟨a, vs, e1, hH, _⟩ := S1.derfL q r1
    refine ⟨?_, as1, h1, e, S1, E.ext x1, Post.bind (k := fun v h2 => appendV x v h2) p1 fun y h2 as2 H2 w x2 S2 r2 p2 => ?_⟩
    · subst e1
      exact .inl ⟨rfl, vs, .inl (.inl hH)⟩
    · exact mt_appendM (as1 := as1) (H1 := H1) (RV.ext x2 x v r1) S2 r2 p2
  | _ => rw [q] at p1; exact False.elim p1
theorem s_pop {o : Expr} {apos pos : Pos} {fo : MEnv → MH → Res MV} (ho : PE X o (rdE X W fo)) (hbase : attributeBase o "pop" X.env (eval o X.env) = eval o X.env) (hline : (apos.endLine == pos.line) = true) :
    PE X (.Call (.Attribute o "pop" apos) [] [] pos) (rdE X W fun e h => (fo e h).bind fun x h1 => popV x h1) := by
  refine PE.imp (pe_bm0 PySem.F.plainAttrs_list PySem.F.slot_list_pop PySem.F.type_list_pop mt_pop ho hbase hline) fun σ H Q ⟨as, h, e, S, E, p⟩ => ?_
  refine ⟨as, h, e, S, E, p.bind fun x h1 as1 H1 v x1 S1 r1 p1 => ?_⟩
  cases x with
  | ref n =>
    have p1 : Post X.K X.mg W (RVr X.K) as1 H1 σ Q (match h1[n]? with
      | some (.lst xs) => match xs[xs.length - 1]? with
        | some v => .ok v (h1.set n (.lst xs.dropLast))
        | none => .bad
      | _ => .bad) := p1
    split at p1
    · rename_i xs q
      split at p1
      · rename_i y qy
        obtain ⟨a, vs, rfl, ha, hH, rv, fl⟩ := S1.lst q r1
        obtain ⟨w, hw, rw'⟩ := rv.get qy
        refine ⟨.inl ⟨rfl, vs, .inl (.inl hH)⟩, a, vs, w, rfl, rfl, hH, by rw [← rv.length]; exact hw, ?_⟩
        have x2 : Ext as1 H1 as1 (upd H1 a (.lst vs.dropLast)) := Ext.put S1 (List.mem_of_getElem? ha)
        exact p1 as1 _ w x2 (S1.put ha rv.dropLast (fltL_dropLast fl)) (RV.ext x2 y w rw')
      · exact False.elim p1
    · exact False.elim p1
  | _ => exact False.elim p1
end
end MM
set_option Elab.async false
set_option linter.all false
set_option maxRecDepth 100000
/-! M8: what loops and comprehensions go over; targets; comprehensions. -/
namespace MM
open PySem PySem.Spec PyProof.Rows L2
mutual
theorem same_eq : ∀ (x y : MV), same x y = true → x = y
  | .non, y, h => by cases y <;> first | rfl | cases h
  | .bl a, y, h => by
    cases y with
    | bl b => rw [eq_of_beq (show (a == b) = true from h)]
    | _ => cases h
  | .int a, y, h => by
    cases y with
    | int b => rw [of_decide_eq_true (show decide (a = b) = true from h)]
    | _ => cases h
  | .str a, y, h => by
    cases y with
    | str b => rw [(strEq_iff a b).mp h]
    | _ => cases h
  | .tup a, y, h => by
    cases y with
    | tup b => rw [sameL_eq a b h]
    | _ => cases h
  | .lst a, y, h => by
    cases y with
    | lst b => rw [sameL_eq a b h]
    | _ => cases h
  | .scr a, y, h => by
    cases y with
    | scr b => rw [sameL_eq a b h]
    | _ => cases h
  | .ref a, y, h => by
    cases y with
    | ref b => rw [Nat.eq_of_beq_eq_true h]
    | _ => cases h
  | .atm a, y, h => by cases y <;> cases h
theorem sameL_eq : ∀ (x y : List MV), sameL x y = true → x = y
  | [], [], _ => rfl
  | [], _ :: _, h => by cases h
  | _ :: _, [], h => by cases h
  | a :: x, b :: y, h => by
    simp only [sameL, Bool.and_eq_true] at h
    rw [same_eq a b h.1, sameL_eq x y h.2]
end
mutual
theorem same_self : ∀ (x : MV), flt x = true → same x x = true
  | .non, _ => rfl
  | .bl a, _ => beq_self_eq_true a
  | .int a, _ => decide_eq_true rfl
  | .str a, _ => (strEq_iff a a).mpr rfl
  | .tup a, h => sameL_self a h
  | .lst a, h => by cases h
  | .scr a, h => by cases h
  | .ref a, h => by cases h
  | .atm a, h => by cases h
theorem sameL_self : ∀ (x : List MV), fltL x = true → sameL x x = true
  | [], _ => rfl
  | a :: x, h => by
    simp only [fltL, Bool.and_eq_true] at h
    simp only [sameL, Bool.and_eq_true]
    exact ⟨same_self a h.1, sameL_self x h.2⟩
end
/-- an iterator that gives those items -/
structure RIt (K : PySem.W.Frag) (h : MH) (as : Trk) (H : Hp) (s : Src) (J : It) : Prop where
  stay : s.stays h = true
  turn : ∀ as2 H2 h2 i, Wk as H as2 H2 → Sim K as2 H2 h2 → s.stays h2 = true →
    (i = s.items.length → J.stop i H2) ∧ (i < s.items.length → J.go i H2 ∧ ∀ v H3, J.yld i H2 v H3 → ∃ it, s.items[i]? = some it ∧ Ext as2 H2 as2 H3 ∧ Sim K as2 H3 h2 ∧ RV K as2 H3 it v)
def rdI (X : Cx) (W : WX) (f : MEnv → MH → Res Src) : TI := fun σ H R => ∃ as h e, Sim X.K as H h ∧ EnvR X.K as H e σ ∧ match f e h with
  | .ok s h' => ∀ as' H' J, Ext as H as' H' → Sim X.K as' H' h' → RIt X.K h' as' H' s J → R J H'
  | .exc x fs h' => ∀ as' H' cls d, Ext as H as' H' → Sim X.K as' H' h' → XR X.K X.mg as' H' x fs cls d → W cls d σ H'
  | .bad => False
section
variable {K : PySem.W.Frag} {as as1 : Trk} {H H1 : Hp} {h h1 : MH}
theorem src_at {x : MV} {s : Src} {v : V} (S : Sim K as H h) (q : srcOf h x = some s) (r : RV K as H x v) :
    s.stays h = true ∧ ∃ k : SK, v = .ref k.ad ∧ (∃ vs, k.At K H vs ∧ RVs K as H s.items vs) ∧ ∀ as2 H2 h2, Wk as H as2 H2 → Sim K as2 H2 h2 → s.stays h2 = true → ∃ vs, k.At K H2 vs ∧ RVs K as2 H2 s.items vs := by
  cases x with
  | tup xs =>
    cases (show some (Src.mk xs none) = some s from q)
    obtain ⟨a, vs, rfl, t, rv⟩ := r
    exact ⟨rfl, .t a, rfl, ⟨vs, t.sq, rv⟩, fun as2 H2 h2 w S2 _ => ⟨vs, (t.wk w).sq, RVs.wk w _ _ rv⟩⟩
  | lst xs =>
    cases (show some (Src.mk xs none) = some s from q)
    obtain ⟨a, vs, rfl, t, n, rv⟩ := r
    exact ⟨rfl, .l a, rfl, ⟨vs, .inl (.inl t), rv⟩, fun as2 H2 h2 w S2 _ => ⟨vs, .inl (.inl (w.keep a _ t n).1), RVs.wk w _ _ rv⟩⟩
  | scr xs =>
    cases (show some (Src.mk xs none) = some s from q)
    have r' := r
    obtain ⟨a, vs, rfl, t, rv⟩ := r
    have at_ : ∀ as2 H2, RV K as2 H2 (.scr xs) (.ref a) → ∃ vs, (SK.l a).At K H2 vs ∧ RVs K as2 H2 xs vs := fun as2 H2 r2 => by
      obtain ⟨b, ws, e, t, rv⟩ := r2
      cases e
      refine ⟨ws, ?_, rv⟩
      rcases t with ⟨o, t, n⟩ | t
      · exact .inl (.inr ⟨o, t⟩)
      · exact .inr t
    exact ⟨rfl, .l a, rfl, at_ as H r', fun as2 H2 h2 w S2 _ => at_ as2 H2 (RV.wk w _ _ r')⟩
  | ref n =>
    have q' : (match h[n]? with | some (.lst xs) => some (Src.mk xs (some (n, xs))) | _ => none) = some s := q
    split at q'
    · rename_i xs e
      cases q'
      obtain ⟨a, vs, rfl, ha, h1, rv, fl⟩ := S.lst e r
      refine ⟨?_, .l a, rfl, ⟨vs, .inl (.inl h1), rv⟩, fun as2 H2 h2 w S2 st => ?_⟩
      · show (match h[n]? with | some (.lst ys) => sameL xs ys | _ => false) = true
        rw [e]
        exact sameL_self xs fl
      · have st' : (match h2[n]? with | some (.lst ys) => sameL xs ys | _ => false) = true := st
        split at st'
        · rename_i ys e2
          have ey := sameL_eq _ _ st'
          subst ey
          obtain ⟨b, ws, eb, hb, h2', rv2, _⟩ := S2.lst e2 ⟨a, w.at ha, rfl⟩
          cases eb
          exact ⟨ws, .inl (.inl h2'), rv2⟩
        · cases st'
    · cases q'
  | non => cases q
  | bl _ => cases q
  | int _ => cases q
  | str _ => cases q
  | atm _ => cases q
end
section
variable {X : Cx} {W : WX} {σ : L2.St} {as : Trk} {H : Hp}
/-- an expression, then an iterator -/
theorem rdI.of_bind {α β : Type} {R1 : Trk → Hp → α → β → Prop} {r : Res α} {k : α → MH → Res Src} {Q : β → Hp → Prop} {R : It → Hp → Prop}
    (p : match r.bind k with
      | .ok s h' => ∀ as' H' J, Ext as H as' H' → Sim X.K as' H' h' → RIt X.K h' as' H' s J → R J H'
      | .exc x fs h' => ∀ as' H' cls d, Ext as H as' H' → Sim X.K as' H' h' → XR X.K X.mg as' H' x fs cls d → W cls d σ H'
      | .bad => False)
    (hk : ∀ a h' as1 H1 b, Ext as H as1 H1 → Sim X.K as1 H1 h' → R1 as1 H1 a b → (match k a h' with
      | .ok s h' => ∀ as' H' J, Ext as1 H1 as' H' → Sim X.K as' H' h' → RIt X.K h' as' H' s J → R J H'
      | .exc x fs h' => ∀ as' H' cls d, Ext as1 H1 as' H' → Sim X.K as' H' h' → XR X.K X.mg as' H' x fs cls d → W cls d σ H'
      | .bad => False) → Q b H1) : Post X.K X.mg W R1 as H σ Q r := by
  cases r with
  | ok a h' =>
    intro as' H' b E S rr
    refine hk a h' as' H' b E S rr ?_
    revert p
    show (match k a h' with | .ok s h' => _ | .exc x fs h' => _ | .bad => False) → _
    cases k a h' with
    | ok a2 h2 => exact fun p as2 H2 b2 E2 S2 r2 => p as2 H2 b2 (E.trans E2) S2 r2
    | exc x f h2 => exact fun p as2 H2 cls d E2 S2 r2 => p as2 H2 cls d (E.trans E2) S2 r2
    | bad => exact fun p => p
  | exc x f h' => exact p
  | bad => exact p
theorem i_seq {tg a : Expr} {fa : MEnv → MH → Res MV} (ha : PE X a (rdE X W fa)) : PI X tg a (rdI X W fun e h => (fa e h).bind fun x h1 => match srcOf h1 x with | some s => .ok s h1 | none => .bad) := by
  refine PI.imp (pi_seqG ha) fun σ H R ⟨as, h, e, S, E, p⟩ => ⟨as, h, e, S, E, rdI.of_bind (R1 := RVr X.K) p fun x h1 as1 H1 v x1 S1 r1 p1 => ?_⟩
  cases q : srcOf h1 x with
  | none => rw [q] at p1; exact False.elim p1
  | some s =>
    rw [q] at p1
    obtain ⟨st, k, rfl, ⟨vs, h0, rv0⟩, key⟩ := src_at S1 q r1
    cases k with
    | l a =>
      refine ⟨a, rfl, .inl ⟨⟨vs, h0⟩, p1 as1 H1 _ .refl S1 ⟨st, fun as2 H2 h2 i w S2 st2 => ?_⟩⟩⟩
      obtain ⟨ws, ha, rv⟩ := key as2 H2 h2 w S2 st2
      refine ⟨fun e => ⟨ws, ha, by rw [← rv.length]; exact Nat.le_of_eq e.symm⟩, fun hi => ?_⟩
      have hl : i < ws.length := by rw [← rv.length]; exact hi
      refine ⟨⟨ws, ws[i], ha, List.getElem?_eq_getElem hl⟩, fun v H3 y => ?_⟩
      obtain ⟨rfl, y⟩ := y
      obtain ⟨it, h1, h2⟩ := rv.get' (y ws ha)
      exact ⟨it, h1, .refl, S2, h2⟩
    | t a =>
      refine ⟨a, rfl, .inr ⟨⟨vs, h0⟩, p1 as1 H1 _ .refl S1 ⟨st, fun as2 H2 h2 i w S2 st2 => ?_⟩⟩⟩
      obtain ⟨ws, ha, rv⟩ := key as2 H2 h2 w S2 st2
      refine ⟨fun e => ⟨ws, ha, by rw [← rv.length]; exact Nat.le_of_eq e.symm⟩, fun hi => ?_⟩
      have hl : i < ws.length := by rw [← rv.length]; exact hi
      refine ⟨⟨ws, ws[i], ha, List.getElem?_eq_getElem hl⟩, fun v H3 y => ?_⟩
      obtain ⟨rfl, y⟩ := y
      obtain ⟨it, h1, h2⟩ := rv.get' (y ws ha)
      exact ⟨it, h1, .refl, S2, h2⟩
theorem range_it' (lo : Int) (n : Nat) {K : PySem.W.Frag} {h : MH} {as : Trk} {H : Hp} : RIt K h as H ⟨rangeM lo n, none⟩ (Itr lo n) := by
  have hl : (rangeM lo n).length = n := by simp [rangeM]
  refine ⟨rfl, fun as2 H2 h2 i w S2 _ => ⟨fun e => ?_, fun hi => ?_⟩⟩
  · show n ≤ i
    rw [e]; exact Nat.le_of_eq hl.symm
  · have hi' : i < n := by rw [← hl]; exact hi
    refine ⟨hi', fun v H3 y => ?_⟩
    obtain ⟨rfl, rfl⟩ := y
    refine ⟨.int (lo + i), ?_, .refl, S2, rfl⟩
    simp [rangeM, hi']
theorem i_range1 {tg a : Expr} {p pos : Pos} {fa : MEnv → MH → Res MV} (hg : Gl X "range") (hm : X.mg "range" = none) (ha : PE X a (rdE X W fa)) (hs : starEach [a] X.env = [(false, eval a X.env)]) :
    PI X tg (.Call (.Name "range" p) [a] [] pos) (rdI X W fun e h => (fa e h).bind fun x h1 => match x with | .int j => okIf (small62 j) ⟨rangeM 0 j.toNat, none⟩ h1 | _ => .bad) := by
  refine PI.imp (pi_range1 hg hm (a_one ha hs) hs) fun σ H R ⟨as, h, e, S, E, p⟩ => ⟨as, h, e, S, E, rdI.of_bind (R1 := RVr X.K) p fun x h1 as1 H1 v x1 S1 r1 p1 => ?_⟩
  cases x with
  | int j =>
    cases hl : small62 j with
    | false => simp only [hl] at p1; exact False.elim p1
    | true =>
      simp only [hl] at p1
      unfold small62 at hl
      simp only [Bool.and_eq_true, decide_eq_true_eq] at hl
      cases (show v = .int j from r1)
      exact ⟨j, rfl, hl.1, hl.2, p1 as1 H1 _ .refl S1 (range_it' 0 _)⟩
  | _ => exact False.elim p1
theorem i_range2 {tg a b : Expr} {p pos : Pos} {fa fb : MEnv → MH → Res MV} (hg : Gl X "range") (hm : X.mg "range" = none) (ha : PE X a (rdE X W fa)) (hb : PE X b (rdE X W fb)) (hs : starEach [a, b] X.env = [(false, eval a X.env), (false, eval b X.env)]) (hs2 : starEach [b] X.env = [(false, eval b X.env)]) :
    PI X tg (.Call (.Name "range" p) [a, b] [] pos) (rdI X W fun e h => (fa e h).bind fun x h1 => (fb e h1).bind fun y h2 => match x, y with
    | .int i, .int j => okIf (small62 i && small62 j) ⟨rangeM i (j - i).toNat, none⟩ h2
    | _, _ => .bad) := by
  refine PI.imp (pi_range2 hg hm (pa_cons ha (a_one hb hs2) (by rw [hs, hs2])) hs hs2) fun σ H R ⟨as, h, e, S, E, p⟩ => ⟨as, h, e, S, E, rdI.of_bind (R1 := RVr X.K) p fun x h1 as1 H1 v x1 S1 r1 p1 => ⟨as1, h1, e, S1, E.ext x1, rdI.of_bind (R1 := RVr X.K) p1 fun y h2 as2 H2 w x2 S2 r2 p2 => ?_⟩⟩
  cases x with
  | int i =>
    cases y with
    | int j =>
      cases hl : (small62 i && small62 j) with
      | false => simp only [hl] at p2; exact False.elim p2
      | true =>
        simp only [hl] at p2
        unfold small62 at hl
        simp only [Bool.and_eq_true, decide_eq_true_eq] at hl
        cases (show v = .int i from r1)
        cases (show w = .int j from r2)
        exact ⟨i, j, rfl, ⟨hl.1.1, hl.1.2, hl.2.1, hl.2.2⟩, p2 as2 H2 _ .refl S2 (range_it' i _)⟩
    | _ => exact False.elim p2
  | _ => exact False.elim p2
theorem enumM_len : ∀ (xs : List MV) (n : Nat), (enumM n xs).length = xs.length
  | [], _ => rfl
  | _ :: xs, n => by rw [enumM, List.length_cons, enumM_len xs, List.length_cons]
theorem enumM_get : ∀ (xs : List MV) (n i : Nat) (x : MV), xs[i]? = some x → (enumM n xs)[i]? = some (.tup [.int ((n + i : Nat) : Int), x])
  | [], _, _, _, h => by simp at h
  | y :: xs, n, 0, x, h => by
    have : y = x := by simpa using h
    subst this
    simp [enumM]
  | y :: xs, n, i + 1, x, h => by
    have := enumM_get xs (n + 1) i x (by simpa using h)
    rw [enumM, List.getElem?_cons_succ, this]
    congr 4
    omega
theorem Src.stays_items {s : Src} (xs : List MV) (h : MH) : (Src.mk xs s.cell).stays h = s.stays h := rfl
theorem i_enum {a : Expr} {p pos tpos : Pos} {elts : List Expr} {kk : Nat} {fa : MEnv → MH → Res MV} (hg : Gl X "enumerate") (hm : X.mg "enumerate" = none) (ha : PE X a (rdE X W fa)) (hs : starEach [a] X.env = [(false, eval a X.env)]) :
    PI X (.Tuple elts kk tpos) (.Call (.Name "enumerate" p) [a] [] pos) (rdI X W fun e h => (fa e h).bind fun x h1 => match srcOf h1 x with | some s => .ok ⟨enumM 0 s.items, s.cell⟩ h1 | none => .bad) := by
  refine PI.imp (pi_enumG hg hm (a_one ha hs) hs) fun σ H R ⟨as, h, e, S, E, p⟩ => ⟨as, h, e, S, E, rdI.of_bind (R1 := RVr X.K) p fun x h1 as1 H1 v x1 S1 r1 p1 => ?_⟩
  cases q : srcOf h1 x with
  | none => rw [q] at p1; exact False.elim p1
  | some s =>
    rw [q] at p1
    obtain ⟨st, k, rfl, ⟨vs, h0, rv0⟩, key⟩ := src_at S1 q r1
    refine ⟨k, vs, rfl, h0, p1 as1 H1 _ .refl S1 ⟨st, fun as2 H2 h2 i w S2 st2 => ?_⟩⟩
    obtain ⟨ws, ha, rv⟩ := key as2 H2 h2 w S2 st2
    have hlen : (enumM 0 s.items).length = ws.length := by rw [enumM_len, rv.length]
    refine ⟨fun e => ⟨ws, ha, by rw [← hlen]; exact Nat.le_of_eq e.symm⟩, fun hi => ?_⟩
    have hl : i < ws.length := by rw [← hlen]; exact hi
    refine ⟨⟨ws, ws[i], ha, List.getElem?_eq_getElem hl⟩, fun v H3 y => ?_⟩
    obtain ⟨T, x, rfl, hT, rfl, y⟩ := y
    obtain ⟨it, g1, g2⟩ := rv.get' (y ws ha)
    refine ⟨.tup [.int ((0 + i : Nat) : Int), it], enumM_get _ _ _ _ g1, Ext.new S2 hT, S2.new hT, RV.tupNew S2 hT ⟨.int (i : Nat), [x], rfl, ?_, x, [], rfl, g2, rfl⟩⟩
    show V.int _ = V.int _
    rw [Nat.zero_add]
theorem zipM_len : ∀ (xs ys : List MV), (zipM xs ys).length = min xs.length ys.length
  | [], _ => by simp [zipM]
  | _ :: _, [] => by simp [zipM]
  | _ :: xs, _ :: ys => by
    rw [zipM, List.length_cons, zipM_len xs ys, List.length_cons, List.length_cons]
    omega
theorem zipM_get : ∀ (xs ys : List MV) (i : Nat) (x y : MV), xs[i]? = some x → ys[i]? = some y → (zipM xs ys)[i]? = some (.tup [x, y])
  | [], _, _, _, _, h, _ => by simp at h
  | _ :: _, [], _, _, _, _, h => by simp at h
  | a :: xs, b :: ys, 0, x, y, h, h2 => by
    have e1 : a = x := by simpa using h
    have e2 : b = y := by simpa using h2
    subst e1 e2
    rfl
  | a :: xs, b :: ys, i + 1, x, y, h, h2 => by
    rw [zipM, List.getElem?_cons_succ]
    exact zipM_get xs ys i x y (by simpa using h) (by simpa using h2)
theorem i_zip2 {a b : Expr} {p pos tpos : Pos} {elts : List Expr} {kk : Nat} {fa fb : MEnv → MH → Res MV} (hg : Gl X "zip") (hm : X.mg "zip" = none) (ha : PE X a (rdE X W fa)) (hb : PE X b (rdE X W fb))
    (hs : starEach [a, b] X.env = (false, eval a X.env) :: starEach [b] X.env) (hs2 : starEach [b] X.env = [(false, eval b X.env)]) (hpl : (backTo pos (starEach [b] X.env)).any (·.1) = false) :
    PI X (.Tuple elts kk tpos) (.Call (.Name "zip" p) [a, b] [] pos) (rdI X W fun e h => (fa e h).bind fun x h1 => (fb e h1).bind fun y h2 => match srcOf h2 x, srcOf h2 y with
    | some s, some t => okIf (s.cell.isNone && t.cell.isNone) ⟨zipM s.items t.items, none⟩ h2
    | _, _ => .bad) := by
  refine PI.imp (pi_zipG hg hm (pa_cons ha (a_one hb hs2) hs) hs hpl) fun σ H R ⟨as, h, e, S, E, p⟩ => ⟨as, h, e, S, E, rdI.of_bind (R1 := RVr X.K) p fun x h1 as1 H1 v x1 S1 r1 p1 => ⟨as1, h1, e, S1, E.ext x1, rdI.of_bind (R1 := RVr X.K) p1 fun y h2 as2 H2 w x2 S2 r2 p2 => ?_⟩⟩
  cases q1 : srcOf h2 x with
  | none => rw [q1] at p2; exact False.elim p2
  | some s =>
    cases q2 : srcOf h2 y with
    | none => rw [q1, q2] at p2; exact False.elim p2
    | some t =>
      rw [q1, q2] at p2
      cases hl : (s.cell.isNone && t.cell.isNone) with
      | false => simp only [hl] at p2; exact False.elim p2
      | true =>
        simp only [hl] at p2
        simp only [Bool.and_eq_true, Option.isNone_iff_eq_none] at hl
        obtain ⟨st1, k1, rfl, ⟨vs1, h01, rv01⟩, key1⟩ := src_at S2 q1 (RV.ext x2 x v r1)
        obtain ⟨st2, k2, rfl, ⟨vs2, h02, rv02⟩, key2⟩ := src_at S2 q2 r2
        refine ⟨k1, k2, vs1, vs2, rfl, h01, h02, p2 as2 H2 _ .refl S2 ⟨rfl, fun as3 H3 h3 i w S3 _ => ?_⟩⟩
        have stn : ∀ u : Src, u.cell = none → u.stays h3 = true := fun u hu => by unfold Src.stays; rw [hu]
        obtain ⟨ws1, ha1, rv1⟩ := key1 as3 H3 h3 w S3 (stn s hl.1)
        obtain ⟨ws2, ha2, rv2⟩ := key2 as3 H3 h3 w S3 (stn t hl.2)
        have hlen : (zipM s.items t.items).length = min ws1.length ws2.length := by rw [zipM_len, rv1.length, rv2.length]
        refine ⟨fun e => ⟨ws1, ws2, ha1, ha2, by rw [← hlen]; exact e⟩, fun hi => ?_⟩
        have hi' : i < min ws1.length ws2.length := by rw [← hlen]; exact hi
        have hl1 : i < ws1.length := by omega
        have hl2 : i < ws2.length := by omega
        refine ⟨⟨ws1, ws2, ws1[i], ws2[i], ha1, ha2, List.getElem?_eq_getElem hl1, List.getElem?_eq_getElem hl2⟩, fun v H4 z => ?_⟩
        obtain ⟨T, a1, a2, rfl, hT, rfl, z1, z2⟩ := z
        obtain ⟨it1, g1, g2⟩ := rv1.get' (z1 ws1 ha1)
        obtain ⟨it2, g3, g4⟩ := rv2.get' (z2 ws2 ha2)
        exact ⟨.tup [it1, it2], zipM_get _ _ _ _ _ g1 g3, Ext.new S3 hT, S3.new hT, RV.tupNew S3 hT ⟨a1, [a2], rfl, g2, a2, [], rfl, g4, rfl⟩⟩
theorem zip3M_len : ∀ (xs ys zs : List MV), (zip3M xs ys zs).length = min (min xs.length ys.length) zs.length
  | [], _, _ => by simp [zip3M]
  | _ :: _, [], _ => by simp [zip3M]
  | _ :: _, _ :: _, [] => by simp [zip3M]
  | _ :: xs, _ :: ys, _ :: zs => by
    rw [zip3M, List.length_cons, zip3M_len xs ys zs, List.length_cons, List.length_cons, List.length_cons]
    omega
theorem zip3M_get : ∀ (xs ys zs : List MV) (i : Nat) (x y z : MV), xs[i]? = some x → ys[i]? = some y → zs[i]? = some z → (zip3M xs ys zs)[i]? = some (.tup [x, y, z])
  | [], _, _, _, _, _, _, h, _, _ => by simp at h
  | _ :: _, [], _, _, _, _, _, _, h, _ => by simp at h
  | _ :: _, _ :: _, [], _, _, _, _, _, _, h => by simp at h
  | a :: xs, b :: ys, c :: zs, 0, x, y, z, h, h2, h3 => by
    have e1 : a = x := by simpa using h
    have e2 : b = y := by simpa using h2
    have e3 : c = z := by simpa using h3
    subst e1 e2 e3
    rfl
  | a :: xs, b :: ys, c :: zs, i + 1, x, y, z, h, h2, h3 => by
    rw [zip3M, List.getElem?_cons_succ]
    exact zip3M_get xs ys zs i x y z (by simpa using h) (by simpa using h2) (by simpa using h3)
theorem i_zip3 {a b c : Expr} {p pos tpos : Pos} {elts : List Expr} {kk : Nat} {fa fb fc : MEnv → MH → Res MV} (hg : Gl X "zip") (hm : X.mg "zip" = none) (ha : PE X a (rdE X W fa)) (hb : PE X b (rdE X W fb)) (hc : PE X c (rdE X W fc))
    (hs : starEach [a, b, c] X.env = (false, eval a X.env) :: starEach [b, c] X.env) (hs2 : starEach [b, c] X.env = (false, eval b X.env) :: starEach [c] X.env) (hs3 : starEach [c] X.env = [(false, eval c X.env)]) (hpl : (backTo pos (starEach [b, c] X.env)).any (·.1) = false) :
    PI X (.Tuple elts kk tpos) (.Call (.Name "zip" p) [a, b, c] [] pos) (rdI X W fun e h => (fa e h).bind fun x h1 => (fb e h1).bind fun y h2 => (fc e h2).bind fun z h3 => match srcOf h3 x, srcOf h3 y, srcOf h3 z with
    | some s, some t, some u => okIf (s.cell.isNone && t.cell.isNone && u.cell.isNone) ⟨zip3M s.items t.items u.items, none⟩ h3
    | _, _, _ => .bad) := by
  refine PI.imp (pi_zipG3 hg hm (pa_cons ha (pa_cons hb (a_one hc hs3) hs2) hs) hs hpl) fun σ H R ⟨as, h, e, S, E, p⟩ => ⟨as, h, e, S, E, rdI.of_bind (R1 := RVr X.K) p fun x h1 as1 H1 v x1 S1 r1 p1 => ⟨as1, h1, e, S1, E.ext x1, rdI.of_bind (R1 := RVr X.K) p1 fun y h2 as2 H2 w x2 S2 r2 p2 => ⟨as2, h2, e, S2, (E.ext x1).ext x2, rdI.of_bind (R1 := RVr X.K) p2 fun z h3 as3 H3 w3 x3 S3 r3 p3 => ?_⟩⟩⟩
  cases q1 : srcOf h3 x with
  | none => rw [q1] at p3; exact False.elim p3
  | some s =>
    cases q2 : srcOf h3 y with
    | none => rw [q1, q2] at p3; exact False.elim p3
    | some t =>
      cases q3 : srcOf h3 z with
      | none => rw [q1, q2, q3] at p3; exact False.elim p3
      | some u =>
        rw [q1, q2, q3] at p3
        cases hl : (s.cell.isNone && t.cell.isNone && u.cell.isNone) with
        | false => simp only [hl] at p3; exact False.elim p3
        | true =>
          simp only [hl] at p3
          simp only [Bool.and_eq_true, Option.isNone_iff_eq_none] at hl
          obtain ⟨st1, k1, rfl, ⟨vs1, h01, rv01⟩, key1⟩ := src_at S3 q1 (RV.ext x3 x _ (RV.ext x2 x v r1))
          obtain ⟨st2, k2, rfl, ⟨vs2, h02, rv02⟩, key2⟩ := src_at S3 q2 (RV.ext x3 y _ r2)
          obtain ⟨st3, k3, rfl, ⟨vs3, h03, rv03⟩, key3⟩ := src_at S3 q3 r3
          refine ⟨k1, k2, k3, vs1, vs2, vs3, rfl, h01, h02, h03, p3 as3 H3 _ .refl S3 ⟨rfl, fun as4 H4 h4 i w S4 _ => ?_⟩⟩
          have stn : ∀ u : Src, u.cell = none → u.stays h4 = true := fun u hu => by unfold Src.stays; rw [hu]
          obtain ⟨ws1, ha1, rv1⟩ := key1 as4 H4 h4 w S4 (stn s hl.1.1)
          obtain ⟨ws2, ha2, rv2⟩ := key2 as4 H4 h4 w S4 (stn t hl.1.2)
          obtain ⟨ws3, ha3, rv3⟩ := key3 as4 H4 h4 w S4 (stn u hl.2)
          have hlen : (zip3M s.items t.items u.items).length = min (min ws1.length ws2.length) ws3.length := by rw [zip3M_len, rv1.length, rv2.length, rv3.length]
          refine ⟨fun e => ⟨ws1, ws2, ws3, ha1, ha2, ha3, by rw [← hlen]; exact e⟩, fun hi => ?_⟩
          have hi' : i < min (min ws1.length ws2.length) ws3.length := by rw [← hlen]; exact hi
          have hl1 : i < ws1.length := by omega
          have hl2 : i < ws2.length := by omega
          have hl3 : i < ws3.length := by omega
          refine ⟨⟨ws1, ws2, ws3, ws1[i], ws2[i], ws3[i], ha1, ha2, ha3, List.getElem?_eq_getElem hl1, List.getElem?_eq_getElem hl2, List.getElem?_eq_getElem hl3⟩, fun v H5 zz => ?_⟩
          obtain ⟨T, a1, a2, a3, rfl, hT, rfl, z1, z2, z3⟩ := zz
          obtain ⟨it1, g1, g2⟩ := rv1.get' (z1 ws1 ha1)
          obtain ⟨it2, g3, g4⟩ := rv2.get' (z2 ws2 ha2)
          obtain ⟨it3, g5, g6⟩ := rv3.get' (z3 ws3 ha3)
          exact ⟨.tup [it1, it2, it3], zip3M_get _ _ _ _ _ _ _ g1 g3 g5, Ext.new S4 hT, S4.new hT, RV.tupNew S4 hT ⟨a1, [a2, a3], rfl, g2, a2, [a3], rfl, g4, a3, [], rfl, g6, rfl⟩⟩
end
end MM
set_option Elab.async false
set_option linter.all false
set_option maxRecDepth 100000
/-! M9: targets and comprehensions. -/
namespace MM
open PySem PySem.Spec PyProof.Rows L2
/-- only those slots have changed -/
structure Out (own : List Nat) (σ σ' : L2.St) : Prop where
  len : σ'.length = σ.length
  at_ : ∀ j, j ∉ own → σ'[j]? = σ[j]?
theorem Out.refl {own : List Nat} {σ : L2.St} : Out own σ σ := ⟨rfl, fun _ _ => rfl⟩
theorem Out.trans {own : List Nat} {σ σ1 σ2 : L2.St} (a : Out own σ σ1) (b : Out own σ1 σ2) : Out own σ σ2 := ⟨b.len.trans a.len, fun j h => (b.at_ j h).trans (a.at_ j h)⟩
theorem wipe_in {σ : L2.St} {i : Nat} : ∀ {vs : List Nat}, i ∈ vs → i < σ.length → (wipe σ vs)[i]? = some none
  | v :: vs, h, hl => by
    unfold wipe
    by_cases e : v = i
    · subst e
      rw [List.getElem?_set_self (by rw [wipe_length]; exact hl)]
    · rw [List.getElem?_set_ne e]
      rcases List.mem_cons.mp h with h | h
      · exact absurd h.symm e
      · exact wipe_in h hl
theorem wipe_get {σ : L2.St} {vs : List Nat} (i : Nat) : (wipe σ vs)[i]? = if i ∈ vs ∧ i < σ.length then some none else σ[i]? := by
  by_cases h : i ∈ vs
  · by_cases hl : i < σ.length
    · rw [wipe_in h hl, if_pos ⟨h, hl⟩]
    · rw [if_neg (fun z => hl z.2), List.getElem?_eq_none (by rw [wipe_length]; omega), List.getElem?_eq_none (by omega)]
  · rw [wipe_out h, if_neg (fun z => h z.1)]
theorem wipe_Out {σ σ' : L2.St} {vs : List Nat} (h : Out vs (wipe σ vs) σ') : wipe σ' vs = wipe σ vs := by
  apply List.ext_getElem?
  intro i
  have hl : σ'.length = σ.length := by rw [h.len, wipe_length]
  rw [wipe_get, wipe_get, hl]
  by_cases c : i ∈ vs ∧ i < σ.length
  · rw [if_pos c, if_pos c]
  · rw [if_neg c, if_neg c]
    by_cases m : i ∈ vs
    · have : ¬ i < σ.length := fun z => c ⟨m, z⟩
      rw [List.getElem?_eq_none (by omega), List.getElem?_eq_none (by omega)]
    · rw [h.at_ i m, wipe_out m]
/-- a target, by the evaluator -/
def rdT (K : PySem.W.Frag) (own : List Nat) (f : MV → MEnv → MH → Res MEnv) : TG := fun v σ H Q => ∃ as h e mv, Sim K as H h ∧ EnvR K as H e σ ∧ RV K as H mv v ∧ match f mv e h with
  | .ok e' h' => ∀ as' H' σ', Ext as H as' H' → Sim K as' H' h' → EnvR K as' H' e' σ' → Out own σ σ' → Q σ' H'
  | _ => False
def rdTs (K : PySem.W.Frag) (own : List Nat) (f : List MV → MEnv → MH → Res MEnv) : TGs := fun v σ H Q => ∃ as h e mv, Sim K as H h ∧ EnvR K as H e σ ∧ RVs K as H mv v ∧ match f mv e h with
  | .ok e' h' => ∀ as' H' σ', Ext as H as' H' → Sim K as' H' h' → EnvR K as' H' e' σ' → Out own σ σ' → Q σ' H'
  | _ => False
section
variable {X : Cx} {own : List Nat}
theorem g_nm {i : Nat} {x : Str} {pos : Pos} (hN : X.N.Nodup) (hi : X.N[i]? = some x) (hx : Loc X.env.scope x) (hf : X.fn x = true ∨ X.env.scope.names.lookup x = some .local) (ho : i ∈ own) :
    PG X (.Name x pos) (rdT X.K own fun v e h => .ok (e.set i (some v)) h) := by
  refine PG.imp (pg_name hN hi hx hf) fun v σ H Q ⟨as, h, e, mv, S, E, r, p⟩ => ?_
  exact p as H _ .refl S (E.set r i) ⟨by simp, fun j hj => List.getElem?_set_ne fun z => hj (by rw [← z]; exact ho)⟩
theorem g_tup {es : List Expr} {k : Nat} {pos : Pos} {n : Nat} {f : List MV → MEnv → MH → Res MEnv} (hc : X.calm = true) (h : PGs X es (rdTs X.K own f)) (hn : (assignEach es X.env).length = n) (hst : (assignEach es X.env).findIdx? (·.1) = none)
    (hl : ∀ vs e h, vs.length ≠ n → ∀ a h', f vs e h ≠ .ok a h') :
    PG X (.Tuple es k pos) (rdT X.K own fun v e h => match v with | .tup vs => f vs e h | _ => .bad) := by
  refine PG.imp (pg_tup hc h hn hst) fun v σ H Q ⟨as, h, e, mv, S, E, r, p⟩ => ?_
  cases mv with
  | tup xs =>
    obtain ⟨a, vs, rfl, t, rv⟩ := r
    refine ⟨a, vs, rfl, t.sq, ?_, as, h, e, xs, S, E, rv, p⟩
    rw [← rv.length]
    apply Classical.byContradiction
    intro z
    have p' : (match f xs e h with
      | .ok e' h' => ∀ as' H' σ', Ext as H as' H' → Sim X.K as' H' h' → EnvR X.K as' H' e' σ' → Out own σ σ' → Q σ' H'
      | _ => False) := p
    split at p'
    · rename_i q
      exact hl xs e h z _ _ q
    · exact p'
  | _ => exact False.elim p
theorem gs_nil : PGs X [] (rdTs X.K own fun vs e h => match vs with | [] => .ok e h | _ => .bad) := by
  refine PGs.imp pgs_nil fun v σ H Q ⟨as, h, e, mv, S, E, r, p⟩ => ?_
  cases mv with
  | nil => exact ⟨r, p as H σ .refl S E .refl⟩
  | cons a b => exact False.elim p
theorem gs_cons {e : Expr} {es : List Expr} {f : MV → MEnv → MH → Res MEnv} {fs : List MV → MEnv → MH → Res MEnv} (h1 : PG X e (rdT X.K own f)) (h2 : PGs X es (rdTs X.K own fs))
    (hs : (assignEach (e :: es) X.env).map (·.2) = assign e X.env :: (assignEach es X.env).map (·.2)) :
    PGs X (e :: es) (rdTs X.K own fun vs e h => match vs with | v :: vs => (f v e h).bind fun e1 h1 => fs vs e1 h1 | [] => .bad) := by
  refine PGs.imp (pgs_cons h1 h2 hs) fun v σ H Q ⟨as, h, e, mv, S, E, r, p⟩ => ?_
  cases mv with
  | nil => exact False.elim p
  | cons x xs =>
    obtain ⟨w, ws, rfl, ra, rb⟩ := r
    refine ⟨w, ws, rfl, as, h, e, x, S, E, ra, ?_⟩
    have p : (match (f x e h).bind fun e1 h1 => fs xs e1 h1 with
      | .ok e' h' => ∀ as' H' σ', Ext as H as' H' → Sim X.K as' H' h' → EnvR X.K as' H' e' σ' → Out own σ σ' → Q σ' H'
      | _ => False) := p
    cases q : f x e h with
    | ok e1 h1 =>
      rw [q] at p
      intro as1 H1 σ1 x1 S1 E1 o1
      refine ⟨as1, h1, e1, xs, S1, E1, RVs.ext x1 _ _ rb, ?_⟩
      have p : (match fs xs e1 h1 with
        | .ok e' h' => ∀ as' H' σ', Ext as H as' H' → Sim X.K as' H' h' → EnvR X.K as' H' e' σ' → Out own σ σ' → Q σ' H'
        | _ => False) := p
      revert p
      cases fs xs e1 h1 with
      | ok e2 h2 => exact fun p as2 H2 σ2 x2 S2 E2 o2 => p as2 H2 σ2 (x1.trans x2) S2 E2 (o1.trans o2)
      | exc c f h => exact fun p => p
      | bad => exact fun p => p
    | exc c f h1 => rw [q] at p; exact p
    | bad => rw [q] at p; exact p
theorem fltL_set {v : MV} (hv : flt v = true) : ∀ {xs : List MV} {i : Nat}, fltL xs = true → fltL (xs.set i v) = true
  | [], _, _ => rfl
  | x :: xs, 0, h => by
    simp only [fltL, Bool.and_eq_true, List.set_cons_zero] at h ⊢
    exact ⟨hv, h.2⟩
  | x :: xs, i + 1, h => by
    simp only [fltL, Bool.and_eq_true, List.set_cons_succ] at h ⊢
    exact ⟨h.1, fltL_set hv h.2⟩
theorem setIx_in {K : PySem.W.Frag} {as : Trk} {H : Hp} {h : MH} {o j mv : MV} {vo vj v : V} (S : Sim K as H h) (ro : RV K as H o vo) (rj : RV K as H j vj) (rm : RV K as H mv v) :
    (∃ h' a vs k jj, setIx o j mv h = .ok () h' ∧ vo = .ref a ∧ vj = .int k ∧ H a = some (.lst vs) ∧ ixN vs.length k = some jj ∧ Ext as H as (upd H a (.lst (vs.set jj v))) ∧ Sim K as (upd H a (.lst (vs.set jj v))) h') ∨ setIx o j mv h = .bad := by
  cases o with
  | ref n =>
    cases j with
    | int k =>
      cases q : h[n]? with
      | none => right; simp [setIx, q]
      | some c =>
        cases c with
        | dct d => right; simp [setIx, q]
        | lst xs =>
          cases q2 : ixN xs.length k with
          | none => right; simp [setIx, q, q2]
          | some jj =>
            cases q3 : flt mv with
            | false => right; simp [setIx, q, q2, q3, okIf]
            | true =>
              left
              obtain ⟨a, vs, rfl, ha, hH, rv, fl⟩ := S.lst q ro
              exact ⟨h.set n (.lst (xs.set jj mv)), a, vs, k, jj, by simp [setIx, q, q2, q3, okIf], rfl, rj, hH, by rw [← rv.length]; exact q2, Ext.put S (List.mem_of_getElem? ha), S.put ha (rv.set rm jj) (fltL_set q3 fl)⟩
    | _ => right; rfl
  | _ => right; cases j <;> rfl
theorem g_sub {o i : Expr} {pos : Pos} {W : WX} {fo fi : MEnv → MH → Res MV} (ho : PE X o (rdE X W fo)) (hi : PE X i (rdE X W fi))
    (ha : ∀ v, assign (.Subscript o i pos) X.env v = (do
      let ov ← holding [v] (eval o X.env)
      let iv ← holding [v, ov] (eval i X.env)
      standAt pos
      holding [v, ov, iv] (setItem ov iv v)
      release [v, ov, iv] [])) :
    PG X (.Subscript o i pos) (rdT X.K own fun v e h => ((fo e h).bind fun o h1 => (fi e h1).bind fun j h2 => (setIx o j v h2).bind fun _ h3 => .ok e h3).nox) := by
  refine PG.imp (pg_sub ho hi set_list ha) fun v σ H Q ⟨as, h, e, mv, S, E, r, p⟩ => ?_
  have p : (match ((fo e h).bind fun o h1 => (fi e h1).bind fun j h2 => (setIx o j mv h2).bind fun _ h3 => .ok e h3).nox with
      | .ok e' h' => ∀ as' H' σ', Ext as H as' H' → Sim X.K as' H' h' → EnvR X.K as' H' e' σ' → Out own σ σ' → Q σ' H'
      | _ => False) := p
  refine ⟨as, h, e, S, E, ?_⟩
  cases q : fo e h with
  | ok o h1 =>
    rw [q] at p
    intro as1 H1 vo x1 S1 r1
    refine ⟨as1, h1, e, S1, E.ext x1, ?_⟩
    cases q2 : fi e h1 with
    | ok j h2 =>
      simp only [Res.bind_ok, q2] at p
      intro as2 H2 vj x2 S2 r2
      rcases setIx_in S2 (RV.ext x2 _ _ r1) r2 (RV.ext (x1.trans x2) _ _ r) with ⟨h', a, vs, k, jj, e1, rfl, rfl, hH, hj, xx, SS⟩ | e1
      · rw [e1] at p
        exact ⟨a, vs, k, jj, rfl, rfl, hH, hj, p as2 _ σ ((x1.trans x2).trans xx) SS (((E.ext x1).ext x2).ext xx) .refl⟩
      · rw [e1] at p
        exact False.elim p
    | exc c f h2 => simp only [Res.bind_ok, q2] at p; exact False.elim p
    | bad => simp only [Res.bind_ok, q2] at p; exact False.elim p
  | exc c f h1 => rw [q] at p; exact False.elim p
  | bad => rw [q] at p; exact False.elim p
/-! ### comprehensions -/
/-- all but the list that is being filled -/
structure ExtD (D : Addr) (as : Trk) (H : Hp) (as' : Trk) (H' : Hp) : Prop extends Wk as H as' H' where
  hx : as'.x = as.x
  hid : ∀ a ∈ as.x, a ≠ D → ∀ o, H a = some o → H' a = some o
theorem Ext.toD {D : Addr} {as as' : Trk} {H H' : Hp} (x : Ext as H as' H') : ExtD D as H as' H' := ⟨x.toWk, x.hx, fun a m _ => x.hid a m⟩
theorem ExtD.trans {D : Addr} {as as1 as2 : Trk} {H H1 H2 : Hp} (a : ExtD D as H as1 H1) (b : ExtD D as1 H1 as2 H2) : ExtD D as H as2 H2 :=
  ⟨a.toWk.trans b.toWk, b.hx.trans a.hx, fun c m n o h => b.hid c (by rw [a.hx]; exact m) n o (a.hid c m n o h)⟩
theorem ExtD.put {D : Addr} {as : Trk} {H : Hp} {o : HO} (m : D ∈ as.x) : ExtD D as H as (upd H D o) := ⟨Wk.put (.inr m), rfl, fun a _ n u q => by rw [upd_ne n]; exact q⟩
theorem Sim.hputx {K : PySem.W.Frag} {as : Trk} {H : Hp} {h : MH} {D : Addr} {o : HO} (S : Sim K as H h) (m : D ∈ as.x) : Sim K as (upd H D o) h := by
  have hn := (S.hid D m).2
  refine ⟨S.len, S.nd, fun i c a q q2 => (S.cell i c a q q2).wk (Wk.put (.inr m)) (upd_ne fun e => hn (e ▸ List.mem_of_getElem? q2)), fun a z => ?_⟩
  obtain ⟨⟨u, q⟩, k⟩ := S.hid a z
  by_cases e : a = D
  · exact ⟨⟨o, by rw [e]; exact upd_same⟩, k⟩
  · exact ⟨⟨u, by rw [upd_ne e]; exact q⟩, k⟩
theorem EnvR.wk {K : PySem.W.Frag} {as as' : Trk} {H H' : Hp} {e : MEnv} {σ : L2.St} (E : Wk as H as' H') (r : EnvR K as H e σ) : EnvR K as' H' e σ :=
  ⟨r.len, fun i x q => let ⟨v, h1, h2⟩ := r.at_ i x q; ⟨v, h1, RV.wk E x v h2⟩⟩
theorem RIt.wk {K : PySem.W.Frag} {h : MH} {as as' : Trk} {H H' : Hp} {s : Src} {J : It} (w : Wk as H as' H') (r : RIt K h as H s J) : RIt K h as' H' s J :=
  ⟨r.stay, fun as2 H2 h2 i w2 => r.turn as2 H2 h2 i (w.trans w2)⟩
/-- from a state on: the list at D is filled with what comes behind, then Q -/
def Fil (K : PySem.W.Frag) (D : Addr) (as : Trk) (H : Hp) (done : List MV) (Q : Hp → Prop) (r : Res (List MV)) : Prop := match r with
  | .ok ws h' => done.length + ws.length ≤ 16000000 ∧ ∀ as' H' us, ExtD D as H as' H' → Sim K as' H' h' → H' D = some (.lst us) → RVs K as' H' (done ++ ws) us → Q H'
  | _ => False
theorem Fil.later {K : PySem.W.Frag} {D : Addr} {as as1 : Trk} {H H1 : Hp} {done : List MV} {Q : Hp → Prop} {r : Res (List MV)} (x : ExtD D as H as1 H1) (p : Fil K D as H done Q r) : Fil K D as1 H1 done Q r := by
  cases r with
  | ok ws h' => exact ⟨p.1, fun as' H' us x' => p.2 as' H' us (x.trans x')⟩
  | exc c f h => exact p
  | bad => exact p
/-- a loop that fills the list at D: body is what stands behind the target -/
theorem fill_loop {K : PySem.W.Frag} {own : List Nat} {σ : L2.St} {g : TG} {we : MEnv} {ft : MV → MEnv → MH → Res MEnv} {fc : MEnv → MH → Res Bool} {fx : MEnv → MH → Res (List MV)} {D : Addr}
    {body : L2.St → Hp → (Hp → Prop) → Prop}
    (hg : ∀ v σ H Q, rdT K own ft v σ H Q → g v σ H Q)
    (hb : ∀ as H h e σ' done vs Nx, Sim K as H h → EnvR K as H e σ' → D ∈ as.x → H D = some (.lst vs) → RVs K as H done vs →
      (match fc e h with
        | .ok b h2 => if b = true then Fil K D as H done (fun H' => Nx H') (fx e h2) else ∀ as' H', Ext as H as' H' → Sim K as' H' h2 → Nx H'
        | _ => False) → body σ' H Nx)
    {as : Trk} {H : Hp} {h0 h : MH} {s : Src} {J : It} {done : List MV} {vs : List V} {Q : Hp → Prop} (S : Sim K as H h) (E : EnvR K as H we (wipe σ own)) (hJ : RIt K h0 as H s J) (st : s.stays h = true) (m : D ∈ as.x) (hD : H D = some (.lst vs)) (r : RVs K as H done vs)
    (p : Fil K D as H done (fun H' => Q H') (compL2 ft fc fx we s.stays s.items h)) :
    ∃ W : Nat → Nat → Hp → Prop, (∃ m, W 0 m H) ∧ ∀ i m H, W i m H → (J.stop i H ∧ Q H) ∨ (J.go i H ∧ ∃ Nx : Hp → Prop, (∀ H', Nx H' → ∃ m', m' < m ∧ W (i + 1) m' H') ∧ ∀ x H', J.yld i H x H' → g x (wipe σ own) H' fun σ2 H2 => wipe σ2 own = wipe σ own ∧ body σ2 H2 Nx) := by
  refine ⟨fun i k H2 => ∃ as2 h2 done2 vs2, ExtD D as H as2 H2 ∧ Sim K as2 H2 h2 ∧ H2 D = some (.lst vs2) ∧ RVs K as2 H2 done2 vs2 ∧ s.stays h2 = true ∧ i + k = s.items.length ∧ Fil K D as2 H2 done2 (fun H' => Q H') (compL2 ft fc fx we s.stays (s.items.drop i) h2),
    ⟨s.items.length, as, h, done, vs, Ext.refl.toD, S, hD, r, st, by omega, p⟩, ?_⟩
  rintro i k H2 ⟨as2, h2, done2, vs2, x2, S2, hD2, r2, st2, hk, p2⟩
  have t := hJ.turn as2 H2 h2 i x2.toWk S2 st2
  by_cases hi : i < s.items.length
  · obtain ⟨go, yl⟩ := t.2 hi
    refine .inr ⟨go, fun H' => ∃ as3 h3 done3 vs3, ExtD D as H as3 H' ∧ Sim K as3 H' h3 ∧ H' D = some (.lst vs3) ∧ RVs K as3 H' done3 vs3 ∧ s.stays h3 = true ∧ (i + 1) + (k - 1) = s.items.length ∧ Fil K D as3 H' done3 (fun H' => Q H') (compL2 ft fc fx we s.stays (s.items.drop (i + 1)) h3),
      fun H' n => ⟨k - 1, by omega, n⟩, fun x H3 y => ?_⟩
    obtain ⟨it, g1, xE, S3, rv⟩ := yl x H3 y
    have hdr : s.items.drop i = it :: s.items.drop (i + 1) := by
      obtain ⟨hl, e1⟩ := List.getElem?_eq_some_iff.mp g1
      rw [List.drop_eq_getElem_cons hl, e1]
    rw [hdr] at p2
    have p2 : Fil K D as2 H2 done2 (fun H' => Q H') ((ft it we h2).bind fun e1 h1 => (fc e1 h1).bind fun b h2 =>
      if b then (fx e1 h2).bind fun ws h3 => if s.stays h3 then (compL2 ft fc fx we s.stays (s.items.drop (i + 1)) h3).bind fun vs h4 => .ok (ws ++ vs) h4 else .bad
      else if s.stays h2 then compL2 ft fc fx we s.stays (s.items.drop (i + 1)) h2 else .bad) := p2
    refine hg _ _ _ _ ⟨as2, h2, we, it, S3, E.wk (x2.toWk.trans xE.toWk), rv, ?_⟩
    cases q : ft it we h2 with
    | bad => rw [q] at p2; exact p2
    | exc c f h => rw [q] at p2; exact p2
    | ok e1 h3 =>
      simp only [q, Res.bind_ok] at p2
      intro as3 H4 σ2 x3 S4 E4 o4
      have x24 : ExtD D as2 H2 as3 H4 := xE.toD.trans x3.toD
      have mD : D ∈ as2.x := by rw [x2.hx]; exact m
      have hD4 : H4 D = some (.lst vs2) := x3.hid D mD _ (xE.hid D mD _ hD2)
      have mD4 : D ∈ as3.x := by rw [x3.hx]; exact mD
      refine ⟨wipe_Out o4, hb as3 H4 h3 e1 σ2 done2 vs2 _ S4 E4 mD4 hD4 (RVs.wk x24.toWk _ _ r2) ?_⟩
      cases q2 : fc e1 h3 with
      | bad => rw [q2] at p2; exact p2
      | exc c f h => rw [q2] at p2; exact p2
      | ok b h4 =>
        simp only [q2, Res.bind_ok] at p2
        cases b with
        | true =>
          simp only [if_true] at p2 ⊢
          cases q3 : fx e1 h4 with
          | bad => rw [q3] at p2; exact p2
          | exc c f h => rw [q3] at p2; exact p2
          | ok ws h5 =>
            simp only [q3, Res.bind_ok] at p2
            cases hst : s.stays h5 with
            | false => rw [hst] at p2; exact False.elim p2
            | true =>
              rw [hst] at p2
              simp only [if_true] at p2
              cases q4 : compL2 ft fc fx we s.stays (s.items.drop (i + 1)) h5 with
              | bad => rw [q4] at p2; exact False.elim p2
              | exc c f h => rw [q4] at p2; exact False.elim p2
              | ok us h6 =>
                rw [q4] at p2
                have p2 : done2.length + (ws ++ us).length ≤ 16000000 ∧ ∀ as' H' xs, ExtD D as2 H2 as' H' → Sim K as' H' h6 → H' D = some (.lst xs) → RVs K as' H' (done2 ++ (ws ++ us)) xs → Q H' := p2
                rw [List.length_append] at p2
                refine ⟨by omega, fun as' H' xs x' S' hD' r' => ?_⟩
                refine ⟨as', h5, done2 ++ ws, xs, x2.trans (x24.trans x'), S', hD', r', hst, by omega, ?_⟩
                rw [q4]
                refine ⟨by rw [List.length_append]; omega, fun as6 H6 ys x6 S6 hD6 r6 => p2.2 as6 H6 ys (x24.trans (x'.trans x6)) S6 hD6 (by rw [← List.append_assoc]; exact r6)⟩
        | false =>
          simp only [Bool.false_eq_true, if_false] at p2 ⊢
          intro as' H' x' S'
          cases hst : s.stays h4 with
          | false => rw [hst] at p2; exact False.elim p2
          | true =>
            rw [hst] at p2
            simp only [if_true] at p2
            have x4' : ExtD D as2 H2 as' H' := x24.trans x'.toD
            exact ⟨as', h4, done2, vs2, x2.trans x4', S', x'.hid D mD4 _ hD4, RVs.wk x4'.toWk _ _ r2, hst, by omega, p2.later x4'⟩
  · have hi' : i = s.items.length := by omega
    refine .inl ⟨t.1 hi', ?_⟩
    rw [List.drop_of_length_le (by omega)] at p2
    have p2 : done2.length + 0 ≤ 16000000 ∧ ∀ as' H' us, ExtD D as2 H2 as' H' → Sim K as' H' h2 → H' D = some (.lst us) → RVs K as' H' (done2 ++ []) us → Q H' := p2
    exact p2.2 as2 H2 vs2 Ext.refl.toD S2 hD2 (by rw [List.append_nil]; exact r2)
abbrev wF : WX := fun _ _ _ _ => False
theorem Post.later {α β : Type} {K : PySem.W.Frag} {mg : Str → Option Value} {W : WX} {R : Trk → Hp → α → β → Prop} {as as1 : Trk} {H H1 : Hp} {σ : L2.St} {Q : β → Hp → Prop} {r : Res α} (x : Ext as H as1 H1) (p : Post K mg W R as H σ Q r) : Post K mg W R as1 H1 σ Q r := by
  cases r with
  | ok a h => exact fun as' H' b x' => p as' H' b (x.trans x')
  | exc c f h => exact fun as' H' cls d x' => p as' H' cls d (x.trans x')
  | bad => exact p
/-- behind the first clause's store: the tests, then one element -/
theorem body_one {W : WX} {fc : MEnv → MH → Res Bool} {fe : MEnv → MH → Res MV} {tt : TT} {te : TE} {K : PySem.W.Frag} {mg : Str → Option Value} {D : Addr}
    (ht : ∀ σ H Q, rd K mg wF REq fc σ H Q → tt σ H Q) (he : ∀ σ H Q, rd K mg wF (RVr K) fe σ H Q → te σ H Q)
    {as : Trk} {H : Hp} {h : MH} {e : MEnv} {σ' : L2.St} {done : List MV} {vs : List V} {Nx : Hp → Prop} (S : Sim K as H h) (E : EnvR K as H e σ') (m : D ∈ as.x) (hD : H D = some (.lst vs)) (r : RVs K as H done vs)
    (p : match fc e h with
        | .ok b h2 => if b = true then Fil K D as H done (fun H' => Nx H') ((fe e h2).bind fun v h => .ok [v] h) else ∀ as' H', Ext as H as' H' → Sim K as' H' h2 → Nx H'
        | _ => False) : tt σ' H fun b H3 => if b = true then te σ' H3 fun y H4 => ∃ acc, H4 D = some (.lst acc) ∧ acc.length < sizeLine ∧ Nx (upd H4 D (.lst (acc ++ [y]))) else Nx H3 := by
  refine ht _ _ _ ⟨as, h, e, S, E, ?_⟩
  cases q : fc e h with
  | bad => rw [q] at p; exact p
  | exc c f h => rw [q] at p; exact False.elim p
  | ok b h2 =>
    rw [q] at p
    intro as1 H1 b' x1 S1 r1
    cases r1
    cases b with
    | false =>
      simp only [Bool.false_eq_true, if_false] at p ⊢
      exact p as1 H1 x1 S1
    | true =>
      simp only [if_true] at p ⊢
      refine he _ _ _ ⟨as1, h2, e, S1, E.ext x1, ?_⟩
      cases q2 : fe e h2 with
      | bad => rw [q2] at p; exact p
      | exc c f h => rw [q2] at p; exact False.elim p
      | ok v h3 =>
        rw [q2] at p
        have p : done.length + 1 ≤ 16000000 ∧ ∀ as' H' us, ExtD D as H as' H' → Sim K as' H' h3 → H' D = some (.lst us) → RVs K as' H' (done ++ [v]) us → Nx H' := p
        intro as2 H2 y x2 S2 r2
        have m2 : D ∈ as2.x := by rw [x2.hx, x1.hx]; exact m
        have m1 : D ∈ as1.x := by rw [x1.hx]; exact m
        have hD2 : H2 D = some (.lst vs) := x2.hid D m1 _ (x1.hid D m _ hD)
        have xx : ExtD D as H as2 (upd H2 D (.lst (vs ++ [y]))) := (x1.trans x2).toD.trans (ExtD.put m2)
        refine ⟨vs, hD2, ?_, p.2 as2 _ (vs ++ [y]) xx (S2.hputx m2) upd_same ?_⟩
        · rw [← r.length, sizeLine_eq]
          omega
        · exact (RVs.wk xx.toWk _ _ r).append (RVs.one (RV.wk (ExtD.put m2).toWk _ _ r2))
section
variable {X : Cx} {W : WX} {own : List Nat}
/-- a loop's start: the list is laid -/
theorem lay_start {K : PySem.W.Frag} {as as1 : Trk} {H H1 : Hp} {h h1 : MH} {D : Addr} {mg : Str → Option Value} {σ : L2.St} {Q : VK} {r : Res (List MV)} (S : Sim K as H h) (x1 : Ext as H as1 H1) (S1 : Sim K as1 H1 h1) (hD : H1 D = none)
    (p : Post K mg W (RFr K H) as H σ Q (r.bind fun vs h2 => okIf (lenOk vs.length) vs h2).nox) : Fil K D (as1.hide D) (upd H1 D (.lst [])) [] (fun H' => Q (.ref D) H') r := by
  cases r with
  | bad => exact p
  | exc c f h => exact p
  | ok vs h2 =>
    have p : Post K mg W (RFr K H) as H σ Q (okIf (lenOk vs.length) vs h2).nox := p
    cases hl : lenOk vs.length with
    | false => rw [hl] at p; exact False.elim p
    | true =>
      rw [hl] at p
      have hl' := Nat.le_of_ble_eq_true hl
      refine ⟨by simpa using hl', fun as' H' us x' S' hD' r' => ?_⟩
      have hx : as'.x = as1.x ++ [D] := x'.hx
      obtain ⟨c', x''⟩ := as'
      cases (show x'' = as1.x ++ [D] from hx)
      have S'' : Sim K ((⟨c', as1.x⟩ : Trk).hide D) H' h2 := S'
      obtain ⟨u1, u2⟩ := S''.unhide
      have hD0 : H D = none := Ext.none S x1 S1 hD
      refine p ⟨c', as1.x⟩ H' (.ref D) ⟨⟨?_, fun a o q n => ?_⟩, x1.hx, fun a m o q => ?_⟩ u1 ⟨D, us, rfl, RVs.wk (Wk.unhide (D := D)) _ _ (show RVs K (Trk.hide ⟨c', as1.x⟩ D) H' vs us from r'), hD0, hD', fun z => ?_⟩
      · obtain ⟨t, e⟩ := x1.pre
        obtain ⟨t2, e2⟩ := x'.pre
        exact ⟨t ++ t2, by rw [show c' = as1.c ++ t2 from e2, e]; simp⟩
      · have w := ((x1.toWk.trans (Wk.hide hD)).trans x'.toWk).keep a o q n
        exact ⟨w.1, fun z => w.2 (Trk.mem_hide.mpr (.inl z))⟩
      · have q1 := x1.hid a m o q
        have m1 : a ∈ as1.x := by rw [x1.hx]; exact m
        have n1 : a ≠ D := ne_of_none q1 hD
        exact x'.hid a (List.mem_append_left _ m1) n1 o (by rw [upd_ne n1]; exact q1)
      · rcases z with z | z
        · exact u2 z
        · obtain ⟨o, q⟩ := (S1.hid D z).1
          rw [hD] at q; cases q
theorem comp_in {ow : List (Str × Nat)} {fi : MEnv → MH → Res Src} {ft : MV → MEnv → MH → Res MEnv} {fc : MEnv → MH → Res Bool} {fe : MEnv → MH → Res MV} (ho : ow.map (·.2) = own) {σ : L2.St} {H : Hp} {Q : VK}
    (q : rdF X W (fun e h => (fi e h).bind fun s h1 => ((compL2 ft fc (fun e h => (fe e h).bind fun v h => .ok [v] h) (wipeM e own) s.stays s.items h1).bind fun vs h2 => okIf (lenOk vs.length) vs h2).nox) σ H Q) :
    tLc (rdI X W fi) (rdT X.K own ft) (rd X.K X.mg wF REq fc) (rd X.K X.mg wF (RVr X.K) fe) (ow.map (·.2)) σ H Q := by
  obtain ⟨as, h, e, S, E, p⟩ := q
  refine ⟨as, h, e, S, E, ?_⟩
  rw [ho]
  have p : Post X.K X.mg W (RFr X.K H) as H σ Q ((fi e h).bind fun s h1 => ((compL2 ft fc (fun e h => (fe e h).bind fun v h => .ok [v] h) (wipeM e own) s.stays s.items h1).bind fun vs h2 => okIf (lenOk vs.length) vs h2).nox) := p
  cases q : fi e h with
  | bad => rw [q] at p; exact p
  | exc c f h1 => rw [q] at p; exact p
  | ok s h1 =>
    rw [q] at p
    have p' : Post X.K X.mg W (RFr X.K H) as H σ Q ((compL2 ft fc (fun e h => (fe e h).bind fun v h => .ok [v] h) (wipeM e own) s.stays s.items h1).bind fun vs h2 => okIf (lenOk vs.length) vs h2).nox := p
    intro as1 H1 J x1 S1 hJ D hD
    exact fill_loop (g := rdT X.K own ft) (fc := fc) (fx := fun e h => (fe e h).bind fun v h => .ok [v] h) (fun _ _ _ _ z => z) (fun as H h e σ' done vs Nx S E m hD r p => body_one (W := W) (fc := fc) (fe := fe) (fun _ _ _ z => z) (fun _ _ _ z => z) S E m hD r p)
      (S1.hide hD) ((E.wk (x1.toWk.trans (Wk.hide hD))).wipe own) (hJ.wk (Wk.hide hD)) hJ.stay (List.mem_append_right _ (List.mem_singleton.mpr rfl)) upd_same (show RVs X.K (as1.hide D) (upd H1 D (.lst [])) [] [] from rfl) (lay_start S x1 S1 hD p')
theorem f_comp {elt tg iter : Expr} {ifs : List Expr} {scope : Scope} {ow : List (Str × Nat)} {pos : Pos} {fi : MEnv → MH → Res Src} {ft : MV → MEnv → MH → Res MEnv} {fc : MEnv → MH → Res Bool} {fe : MEnv → MH → Res MV} (hc : X.calm = true) (hN : X.N.Nodup)
    (ho : ow.map (·.2) = own) (hi : PI X tg iter (rdI X W fi)) (ok : BlkOk X.N X.env.scope scope ow)
    (hg : ∀ (s : Shared) (H : Hp) (C : Addr) (cl : List (Str × Addr)) (fp : List Addr), PG (X.blk s H scope (compEnvC scope cl C X.env) fp) tg (rdT X.K own ft))
    (ht : ∀ (s : Shared) (H : Hp) (C : Addr) (cl : List (Str × Addr)) (fp : List Addr), PTs (X.blk s H scope (compEnvC scope cl C X.env) fp) ifs (rdB (X.blk s H scope (compEnvC scope cl C X.env) fp) wF fc))
    (he : ∀ (s : Shared) (H : Hp) (C : Addr) (cl : List (Str × Addr)) (fp : List Addr), PE (X.blk s H scope (compEnvC scope cl C X.env) fp) elt (rdE (X.blk s H scope (compEnvC scope cl C X.env) fp) wF fe)) (hs : ∀ x, foldedSetIterable iter X.env x = pure x) :
    PE X (.ListComp elt [⟨tg, iter, ifs, 0⟩] scope pos) (rdF X W fun e h => (fi e h).bind fun s h1 =>
      ((compL2 ft fc (fun e h => (fe e h).bind fun v h => .ok [v] h) (wipeM e own) s.stays s.items h1).bind fun vs h2 => okIf (lenOk vs.length) vs h2).nox) := by
  exact PE.imp (pe_lc (tt := rd X.K X.mg wF REq fc) (te := rd X.K X.mg wF (RVr X.K) fe) hc hN hi ok hg ht he hs) fun σ H Q q => comp_in ho q
theorem comp2_in {ow : List (Str × Nat)} {own1 : List Nat} {fi fi1 : MEnv → MH → Res Src} {ft ft1 : MV → MEnv → MH → Res MEnv} {fc fc1 : MEnv → MH → Res Bool} {fe : MEnv → MH → Res MV} (ho : ow.map (·.2) = own) {σ : L2.St} {H : Hp} {Q : VK}
    (q : rdF X W (fun e h => (fi e h).bind fun s h1 => ((compL2 ft fc (fun e h => (fi1 e h).bind fun s1 h1 => compL2 ft1 fc1 (fun e h => (fe e h).bind fun v h => .ok [v] h) (wipeM e own1) s1.stays s1.items h1)
        (wipeM e own) s.stays s.items h1).bind fun vs h2 => okIf (lenOk vs.length) vs h2).nox) σ H Q) :
    tLc2 (rdI X W fi) (rdT X.K own ft) (rd X.K X.mg wF REq fc) (fun σ H R => ∃ as h e, Sim X.K as H h ∧ EnvR X.K as H e σ ∧ match fi1 e h with
      | .ok s h' => ∀ as' H' J, Ext as H as' H' → Sim X.K as' H' h' → RIt X.K h' as' H' s J → R J H'
      | .exc x fs h' => ∀ as' H' cls d, Ext as H as' H' → Sim X.K as' H' h' → XR X.K X.mg as' H' x fs cls d → wF cls d σ H'
      | .bad => False) (rdT X.K own1 ft1) (rd X.K X.mg wF REq fc1) (rd X.K X.mg wF (RVr X.K) fe) (ow.map (·.2)) own1 σ H Q := by
  obtain ⟨as, h, e, S, E, p⟩ := q
  refine ⟨as, h, e, S, E, ?_⟩
  rw [ho]
  have p : Post X.K X.mg W (RFr X.K H) as H σ Q ((fi e h).bind fun s h1 => ((compL2 ft fc (fun e h => (fi1 e h).bind fun s1 h1 => compL2 ft1 fc1 (fun e h => (fe e h).bind fun v h => .ok [v] h) (wipeM e own1) s1.stays s1.items h1)
        (wipeM e own) s.stays s.items h1).bind fun vs h2 => okIf (lenOk vs.length) vs h2).nox) := p
  cases q : fi e h with
  | bad => rw [q] at p; exact p
  | exc c f h1 => rw [q] at p; exact p
  | ok s h1 =>
    rw [q] at p
    have p' : Post X.K X.mg W (RFr X.K H) as H σ Q ((compL2 ft fc (fun e h => (fi1 e h).bind fun s1 h1 => compL2 ft1 fc1 (fun e h => (fe e h).bind fun v h => .ok [v] h) (wipeM e own1) s1.stays s1.items h1)
        (wipeM e own) s.stays s.items h1).bind fun vs h2 => okIf (lenOk vs.length) vs h2).nox := p
    intro as1 H1 J x1 S1 hJ D hD
    refine fill_loop (g := rdT X.K own ft) (fc := fc) (fx := fun e h => (fi1 e h).bind fun s1 h1 => compL2 ft1 fc1 (fun e h => (fe e h).bind fun v h => .ok [v] h) (wipeM e own1) s1.stays s1.items h1) (fun _ _ _ _ z => z) (fun as H h e σ' done vs Nx S E m hD r p => ?_)
      (S1.hide hD) ((E.wk (x1.toWk.trans (Wk.hide hD))).wipe own) (hJ.wk (Wk.hide hD)) hJ.stay (List.mem_append_right _ (List.mem_singleton.mpr rfl)) upd_same (show RVs X.K (as1.hide D) (upd H1 D (.lst [])) [] [] from rfl) (lay_start S x1 S1 hD p')
    -- the tests, then the second clause
    refine ⟨as, h, e, S, E, ?_⟩
    cases q : fc e h with
    | bad => rw [q] at p; exact p
    | exc c f h => rw [q] at p; exact False.elim p
    | ok b h2 =>
      rw [q] at p
      intro as2 H2 b' x2 S2 r2
      cases r2
      cases b with
      | false =>
        simp only [Bool.false_eq_true, if_false] at p ⊢
        exact p as2 H2 x2 S2
      | true =>
        simp only [if_true] at p ⊢
        refine ⟨as2, h2, e, S2, E.ext x2, ?_⟩
        cases q2 : fi1 e h2 with
        | bad => rw [q2] at p; exact p
        | exc c f h => rw [q2] at p; exact False.elim p
        | ok s1 h3 =>
          rw [q2] at p
          have p : Fil X.K D as H done (fun H' => Nx H') (compL2 ft1 fc1 (fun e h => (fe e h).bind fun v h => .ok [v] h) (wipeM e own1) s1.stays s1.items h3) := p
          intro as3 H3 J1 x3 S3 hJ1
          have m3 : D ∈ as3.x := by rw [x3.hx, x2.hx]; exact m
          have m2 : D ∈ as2.x := by rw [x2.hx]; exact m
          have x23 : ExtD D as H as3 H3 := (x2.trans x3).toD
          exact fill_loop (g := rdT X.K own1 ft1) (fc := fc1) (fx := fun e h => (fe e h).bind fun v h => .ok [v] h) (fun _ _ _ _ z => z) (fun as H h e σ' done vs Nx S E m hD r p => body_one (W := W) (fc := fc1) (fe := fe) (fun _ _ _ z => z) (fun _ _ _ z => z) S E m hD r p)
            S3 ((E.ext (x2.trans x3)).wipe own1) hJ1 hJ1.stay m3 (x3.hid D m2 _ (x2.hid D m _ hD)) (RVs.wk x23.toWk _ _ r) (p.later x23)
theorem f_comp2 {elt tg iter tg1 iter1 : Expr} {ifs ifs1 : List Expr} {scope : Scope} {ow : List (Str × Nat)} {own1 : List Nat} {pos : Pos} {fi fi1 : MEnv → MH → Res Src} {ft ft1 : MV → MEnv → MH → Res MEnv} {fc fc1 : MEnv → MH → Res Bool} {fe : MEnv → MH → Res MV} (hc : X.calm = true) (hN : X.N.Nodup)
    (ho : ow.map (·.2) = own) (hi : PI X tg iter (rdI X W fi)) (ok : BlkOk X.N X.env.scope scope ow) (hv : ∀ i ∈ own1, i ∈ ow.map (·.2))
    (hg : ∀ (s : Shared) (H : Hp) (C : Addr) (cl : List (Str × Addr)) (fp : List Addr), PG (X.blk s H scope (compEnvC scope cl C X.env) fp) tg (rdT X.K own ft))
    (ht : ∀ (s : Shared) (H : Hp) (C : Addr) (cl : List (Str × Addr)) (fp : List Addr), PTs (X.blk s H scope (compEnvC scope cl C X.env) fp) ifs (rdB (X.blk s H scope (compEnvC scope cl C X.env) fp) wF fc))
    (hi1 : ∀ (s : Shared) (H : Hp) (C : Addr) (cl : List (Str × Addr)) (fp : List Addr), PI (X.blk s H scope (compEnvC scope cl C X.env) fp) tg1 iter1 (rdI (X.blk s H scope (compEnvC scope cl C X.env) fp) wF fi1))
    (hg1 : ∀ (s : Shared) (H : Hp) (C : Addr) (cl : List (Str × Addr)) (fp : List Addr), PG (X.blk s H scope (compEnvC scope cl C X.env) fp) tg1 (rdT X.K own1 ft1))
    (ht1 : ∀ (s : Shared) (H : Hp) (C : Addr) (cl : List (Str × Addr)) (fp : List Addr), PTs (X.blk s H scope (compEnvC scope cl C X.env) fp) ifs1 (rdB (X.blk s H scope (compEnvC scope cl C X.env) fp) wF fc1))
    (he : ∀ (s : Shared) (H : Hp) (C : Addr) (cl : List (Str × Addr)) (fp : List Addr), PE (X.blk s H scope (compEnvC scope cl C X.env) fp) elt (rdE (X.blk s H scope (compEnvC scope cl C X.env) fp) wF fe)) (hs : ∀ x, foldedSetIterable iter X.env x = pure x) (hs1 : ∀ env x, foldedSetIterable iter1 env x = pure x) :
    PE X (.ListComp elt [⟨tg, iter, ifs, 0⟩, ⟨tg1, iter1, ifs1, 0⟩] scope pos) (rdF X W fun e h => (fi e h).bind fun s h1 =>
      ((compL2 ft fc (fun e h => (fi1 e h).bind fun s1 h1 => compL2 ft1 fc1 (fun e h => (fe e h).bind fun v h => .ok [v] h) (wipeM e own1) s1.stays s1.items h1)
        (wipeM e own) s.stays s.items h1).bind fun vs h2 => okIf (lenOk vs.length) vs h2).nox) := by
  exact PE.imp (pe_lc2 (wi1 := (fun σ H R => ∃ as h e, Sim X.K as H h ∧ EnvR X.K as H e σ ∧ match fi1 e h with
      | .ok s h' => ∀ as' H' J, Ext as H as' H' → Sim X.K as' H' h' → RIt X.K h' as' H' s J → R J H'
      | .exc x fs h' => ∀ as' H' cls d, Ext as H as' H' → Sim X.K as' H' h' → XR X.K X.mg as' H' x fs cls d → wF cls d σ H'
      | .bad => False)) (tt := rd X.K X.mg wF REq fc) (tt1 := rd X.K X.mg wF REq fc1) (te := rd X.K X.mg wF (RVr X.K) fe) hc hN hi ok hv hg ht hi1 hg1 ht1 he hs hs1) fun σ H Q q => comp2_in ho q
end
end
end MM
set_option Elab.async false
set_option linter.all false
set_option maxRecDepth 100000
/-! M10: statements. -/
namespace MM
open PySem PySem.Spec PyProof.Rows L2
def PostS (K : PySem.W.Frag) (mg : Str → Option Value) (E : XK) (as : Trk) (H : Hp) (D : Ends) : Res (Fl × MEnv) → Prop
  | .ok fe h' => match fe.1 with
    | .nx => ∀ as' H' σ', Ext as H as' H' → Sim K as' H' h' → EnvR K as' H' fe.2 σ' → D.nx σ' H'
    | .bk => ∀ as' H' σ', Ext as H as' H' → Sim K as' H' h' → EnvR K as' H' fe.2 σ' → D.bk σ' H'
    | .ct => ∀ as' H' σ', Ext as H as' H' → Sim K as' H' h' → EnvR K as' H' fe.2 σ' → D.ct σ' H'
    | .rt v => ∀ as' H' x, Ext as H as' H' → Sim K as' H' h' → RV K as' H' v x → D.rt x H'
  | .exc x f h' => ∀ as' H' cls d, Ext as H as' H' → Sim K as' H' h' → XR K mg as' H' x f cls d → E cls d H'
  | .bad => False
def rdS (X : Cx) (E : XK) (f : MEnv → MH → Res (Fl × MEnv)) : TS := fun D σ H => ∃ as h e, Sim X.K as H h ∧ EnvR X.K as H e σ ∧ PostS X.K X.mg E as H D (f e h)
section
variable {K : PySem.W.Frag} {mg : Str → Option Value} {E : XK} {as as1 : Trk} {H H1 : Hp} {D D' : Ends}
theorem PostS.later {r : Res (Fl × MEnv)} (x : Ext as H as1 H1) (p : PostS K mg E as H D r) : PostS K mg E as1 H1 D r := by
  cases r with
  | bad => exact p
  | exc c f h => exact fun as' H' cls d x' => p as' H' cls d (x.trans x')
  | ok fe h =>
    obtain ⟨fl, e⟩ := fe
    cases fl with
    | nx => exact fun as' H' σ' x' => p as' H' σ' (x.trans x')
    | bk => exact fun as' H' σ' x' => p as' H' σ' (x.trans x')
    | ct => exact fun as' H' σ' x' => p as' H' σ' (x.trans x')
    | rt v => exact fun as' H' σ' x' => p as' H' σ' (x.trans x')
/-- an expression, then a statement -/
theorem PostS.bind {α β : Type} {σ : L2.St} {R : Trk → Hp → α → β → Prop} {Q : β → Hp → Prop} {r : Res α} {k : α → MH → Res (Fl × MEnv)} (p : PostS K mg E as H D (r.bind k))
    (hk : ∀ a h' as' H' b, Ext as H as' H' → Sim K as' H' h' → R as' H' a b → PostS K mg E as' H' D (k a h') → Q b H') : Post K mg (wOf E) R as H σ Q r := by
  cases r with
  | ok a h' => exact fun as' H' b x S r => hk a h' as' H' b x S r (PostS.later x (show PostS K mg E as H D (k a h') from p))
  | exc x f h' => exact p
  | bad => exact p
/-- a statement, then a statement -/
theorem PostS.seq {r : Res (Fl × MEnv)} {k : Fl × MEnv → MH → Res (Fl × MEnv)} (p : PostS K mg E as H D (r.bind k))
    (hk : ∀ fl e' h' as' H', Ext as H as' H' → Sim K as' H' h' → PostS K mg E as' H' D (k (fl, e') h') → match fl with
      | .nx => ∀ σ', EnvR K as' H' e' σ' → D'.nx σ' H'
      | .bk => ∀ σ', EnvR K as' H' e' σ' → D'.bk σ' H'
      | .ct => ∀ σ', EnvR K as' H' e' σ' → D'.ct σ' H'
      | .rt v => ∀ x, RV K as' H' v x → D'.rt x H') : PostS K mg E as H D' r := by
  cases r with
  | bad => exact p
  | exc c f h => exact p
  | ok fe h =>
    obtain ⟨fl, e⟩ := fe
    have p : PostS K mg E as H D (k (fl, e) h) := p
    cases fl with
    | nx => exact fun as' H' σ' x S E' => hk .nx e h as' H' x S (p.later x) σ' E'
    | bk => exact fun as' H' σ' x S E' => hk .bk e h as' H' x S (p.later x) σ' E'
    | ct => exact fun as' H' σ' x S E' => hk .ct e h as' H' x S (p.later x) σ' E'
    | rt v => exact fun as' H' y x S r => hk (.rt v) e h as' H' x S (p.later x) y r
end
section
variable {X : Cx} {E : XK} {pos : Pos}
abbrev rS (X : Cx) (E : XK) (L : Option Nat) (G : Callee) (s : MS) : TS := rdS X E fun e h => evS L G s e h
abbrev rSs (X : Cx) (E : XK) (L : Option Nat) (G : Callee) (s : List MS) : TS := rdS X E fun e h => evSs L G s e h
theorem S_nil : PSs X [] (rdS X E fun e h => .ok (.nx, e) h) := PSs.imp pss_nil fun D σ H ⟨as, h, e, S, En, p⟩ => p as H σ .refl S En
theorem S_cons {s : Stmt} {r : List Stmt} {f g : MEnv → MH → Res (Fl × MEnv)} (h1 : PS X s (rdS X E f)) (h2 : PSs X r (rdS X E g)) :
    PSs X (s :: r) (rdS X E fun e h => (f e h).bind fun fe h1 => match fe.1 with | .nx => g fe.2 h1 | _ => .ok fe h1) := by
  refine PSs.imp (pss_cons h1 h2) fun D σ H ⟨as, h, e, S, En, p⟩ => ⟨as, h, e, S, En, ?_⟩
  refine PostS.seq p fun fl e' h' as' H' x S' p' => ?_
  cases fl with
  | nx => exact fun σ' E' => ⟨as', h', e', S', E', p'⟩
  | bk => exact fun σ' E' => p' as' H' σ' .refl S' E'
  | ct => exact fun σ' E' => p' as' H' σ' .refl S' E'
  | rt v => exact fun y r => p' as' H' y .refl S' r
theorem S_expr {e : Expr} {fa : MEnv → MH → Res MV} (he : PE X e (rdE X (wOf E) fa)) (hs : swapsWith e none pos.line X.env = pure false) : PS X (.Expr e pos) (rdS X E fun e h => (fa e h).bind fun _ h1 => .ok (.nx, e) h1) := by
  refine PS.imp (ps_expr he hs) fun D σ H ⟨as, h, e, S, En, p⟩ => ⟨as, h, e, S, En, PostS.bind p fun v h1 as1 H1 w x1 S1 r1 p1 => ?_⟩
  exact p1 as1 H1 σ .refl S1 (En.ext x1)
theorem S_doc {x : Str} {j : Nat} {p1 p2 : Pos} : PS X (.Expr (.Constant (.str x) j p1) p2) (rdS X E fun e h => .ok (.nx, e) h) := PS.imp ps_doc fun D σ H ⟨as, h, e, S, En, p⟩ => p as H σ .refl S En
theorem S_ret {e : Expr} {fa : MEnv → MH → Res MV} (he : PE X e (rdE X (wOf E) fa)) : PS X (.Return (some e) pos) (rdS X E fun e h => (fa e h).bind fun v h1 => .ok (.rt v, e) h1) := by
  refine PS.imp (ps_ret he) fun D σ H ⟨as, h, e, S, En, p⟩ => ⟨as, h, e, S, En, PostS.bind p fun v h1 as1 H1 w x1 S1 r1 p1 => ?_⟩
  exact p1 as1 H1 w .refl S1 r1
theorem S_retN : PS X (.Return none pos) (rdS X E fun e h => .ok (.rt .non, e) h) := PS.imp ps_retN fun D σ H ⟨as, h, e, S, En, p⟩ => p as H .non .refl S rfl
theorem S_pass : PS X (.Pass pos) (rdS X E fun e h => .ok (.nx, e) h) := PS.imp ps_pass fun D σ H ⟨as, h, e, S, En, p⟩ => p as H σ .refl S En
theorem S_brk : PS X (.Break pos) (rdS X E fun e h => .ok (.bk, e) h) := PS.imp ps_break fun D σ H ⟨as, h, e, S, En, p⟩ => p as H σ .refl S En
theorem S_cont : PS X (.Continue pos) (rdS X E fun e h => .ok (.ct, e) h) := PS.imp ps_continue fun D σ H ⟨as, h, e, S, En, p⟩ => p as H σ .refl S En
theorem S_if {c : Expr} {a b : List Stmt} {fc : MEnv → MH → Res Bool} {fa fb : MEnv → MH → Res (Fl × MEnv)} (hc : PT X c (rdB X (wOf E) fc)) (ha : PSs X a (rdS X E fa)) (hb : PSs X b (rdS X E fb)) :
    PS X (.If c a b pos) (rdS X E fun e h => (fc e h).bind fun k h1 => if k then fa e h1 else fb e h1) := by
  refine PS.imp (ps_if hc ha hb) fun D σ H ⟨as, h, e, S, En, p⟩ => ⟨as, h, e, S, En, PostS.bind p fun k h1 as1 H1 b x1 S1 r1 p1 => ?_⟩
  cases r1
  cases k with
  | true => rw [if_pos rfl]; exact ⟨as1, h1, e, S1, En.ext x1, p1⟩
  | false => rw [if_neg Bool.false_ne_true]; exact ⟨as1, h1, e, S1, En.ext x1, p1⟩
/-- target = value, by what serves the target -/
theorem asg_in {g : TG} {own : List Nat} {ft : MV → MEnv → MH → Res MEnv} (hg : ∀ v σ H Q, rdT X.K own ft v σ H Q → g v σ H Q) {te : TE} {fa : MEnv → MH → Res MV} (ht : ∀ σ H Q, rdE X (wOf E) fa σ H Q → te σ H Q) {D : Ends} {σ : L2.St} {H : Hp}
    (q : rdS X E (fun e h => (fa e h).bind fun v h1 => (ft v e h1).nox.bind fun e1 h2 => .ok (.nx, e1) h2) D σ H) : tAsg te g D σ H := by
  obtain ⟨as, h, e, S, En, p⟩ := q
  refine ht _ _ _ ⟨as, h, e, S, En, PostS.bind p fun v h1 as1 H1 w x1 S1 r1 p1 => hg _ _ _ _ ⟨as1, h1, e, v, S1, En.ext x1, r1, ?_⟩⟩
  cases q : ft v e h1 with
  | bad => rw [q] at p1; exact p1
  | exc c f h => rw [q] at p1; exact p1
  | ok e1 h2 => rw [q] at p1; exact fun as' H' σ' x' S' E' o' => p1 as' H' σ' x' S' E'
theorem S_asg {tg e : Expr} {own : List Nat} {ft : MV → MEnv → MH → Res MEnv} {fa : MEnv → MH → Res MV} (he : PE X e (rdE X (wOf E) fa)) (hg : PG X tg (rdT X.K own ft)) (hs : swapsWithSole [tg] e pos.line X.env = pure false) (hw : swappedStores [tg] e X.env = pure none)
    (h1 : (assignEach [tg] X.env).map (·.2) = [assign tg X.env]) : PS X (.Assign [tg] e pos) (rdS X E fun e h => (fa e h).bind fun v h1 => (ft v e h1).nox.bind fun e1 h2 => .ok (.nx, e1) h2) :=
  PS.imp (ps_asg he hg hs hw h1) fun D σ H q => asg_in (own := own) (fun _ _ _ _ z => z) (fun _ _ _ z => z) q
theorem nm_in {i : Nat} {v : V} {σ : L2.St} {H : Hp} {Q : L2.St → Hp → Prop} (q : rdT X.K [i] (fun v e h => .ok (e.set i (some v)) h) v σ H Q) : gName i v σ H Q := by
  obtain ⟨as, h, e, mv, S, En, r, p⟩ := q
  exact p as H _ .refl S (En.set r i) ⟨by simp, fun j hj => List.getElem?_set_ne fun z => hj (by rw [z]; exact List.mem_singleton.mpr rfl)⟩
theorem S_set {i : Nat} {x : Str} {e : Expr} {p1 : Pos} {fa : MEnv → MH → Res MV} (he : PE X e (rdE X (wOf E) fa)) (hN : X.N.Nodup) (hi : X.N[i]? = some x) (hx : Loc X.env.scope x) (hs : swapsWith e (some (.Name x p1)) pos.line X.env = pure false) (hf : X.fn x = true ∨ X.env.scope.names.lookup x = some .local) :
    PS X (.Assign [.Name x p1] e pos) (rdS X E fun e h => (fa e h).bind fun v h1 => ((.ok (e.set i (some v)) h1 : Res MEnv)).nox.bind fun e1 h2 => .ok (.nx, e1) h2) :=
  PS.imp (ps_set hN hi hx he hs hf) fun D σ H q => asg_in (own := [i]) (ft := fun v e h => .ok (e.set i (some v)) h) (fun _ _ _ _ z => nm_in z) (fun _ _ _ z => z) q
theorem par_in {G : Callee} {i j : Nat} {ta : TA} {fs : MEnv → MH → Res (List MV)} (ht : ∀ σ H Q, rdEs X (wOf E) fs σ H Q → ta σ H Q) {D : Ends} {σ : L2.St} {H : Hp}
    (q : rdS X E (fun e h => ((fs e h).bind fun vs h1 => okIf (lenOk vs.length) (.tup vs) h1).bind fun v h1 => (evT G (.tup (.cons (.nm i) (.cons (.nm j) .nil))) v e h1).nox.bind fun e1 h2 => .ok (.nx, e1) h2) D σ H) : tPar i j ta D σ H := by
  obtain ⟨as, h, e, S, En, p⟩ := q
  refine ht _ _ _ ⟨as, h, e, S, En, ?_⟩
  dsimp only at p
  cases q : fs e h with
  | bad => rw [q] at p; exact p
  | exc c f h => rw [q] at p; exact p
  | ok vs h1 =>
    rw [q] at p
    intro as1 H1 us x1 S1 r1
    have p : PostS X.K X.mg E as H D ((okIf (lenOk vs.length) (MV.tup vs) h1).bind fun v h1 => (evT G (.tup (.cons (.nm i) (.cons (.nm j) .nil))) v e h1).nox.bind fun e1 h2 => .ok (.nx, e1) h2) := p
    cases hl : lenOk vs.length with
    | false => rw [hl] at p; exact False.elim p
    | true =>
      rw [hl] at p
      match vs, r1, p with
      | [], _, p => exact False.elim p
      | [_], _, p => exact False.elim p
      | _ :: _ :: _ :: _, _, p => exact False.elim p
      | [v, w], r1, p =>
        obtain ⟨a, b, rfl, ra, rb⟩ := r1.two_inv
        exact ⟨a, b, rfl, p as1 H1 _ x1 S1 (((En.ext x1).set ra i).set rb j)⟩
theorem S_par {G : Callee} {i j : Nat} {x y : Str} {a b : Expr} {px py pt : Pos} {kt k2 pt2} {fs : MEnv → MH → Res (List MV)} (ha : PA X [a, b] (rdEs X (wOf E) fs)) (hc : X.calm = true) (hN : X.N.Nodup) (hi : X.N[i]? = some x) (hj : X.N[j]? = some y) (hij : i ≠ j)
    (hx : X.env.scope.names.lookup x = some .local) (hy : X.env.scope.names.lookup y = some .local)
    (hw : swappedStores [.Tuple [.Name x px, .Name y py] kt pt] (.Tuple [a, b] k2 pt2) X.env = pure (some [x, y]))
    (hs : swapsWithSole [.Tuple [.Name x px, .Name y py] kt pt] (.Tuple [a, b] k2 pt2) pos.line X.env = pure false) :
    PS X (.Assign [.Tuple [.Name x px, .Name y py] kt pt] (.Tuple [a, b] k2 pt2) pos) (rdS X E fun e h => ((fs e h).bind fun vs h1 => okIf (lenOk vs.length) (.tup vs) h1).bind fun v h1 => (evT G (.tup (.cons (.nm i) (.cons (.nm j) .nil))) v e h1).nox.bind fun e1 h2 => .ok (.nx, e1) h2) :=
  PS.imp (ps_par hc hN hi hj hij hx hy ha hw hs) fun D σ H q => par_in (fun _ _ _ z => z) q
theorem par3_in {G : Callee} {i j l : Nat} {ta : TA} {fs : MEnv → MH → Res (List MV)} (ht : ∀ σ H Q, rdEs X (wOf E) fs σ H Q → ta σ H Q) {D : Ends} {σ : L2.St} {H : Hp}
    (q : rdS X E (fun e h => ((fs e h).bind fun vs h1 => okIf (lenOk vs.length) (.tup vs) h1).bind fun v h1 => (evT G (.tup (.cons (.nm i) (.cons (.nm j) (.cons (.nm l) .nil)))) v e h1).nox.bind fun e1 h2 => .ok (.nx, e1) h2) D σ H) : tPar3 i j l ta D σ H := by
  obtain ⟨as, h, e, S, En, p⟩ := q
  refine ht _ _ _ ⟨as, h, e, S, En, ?_⟩
  dsimp only at p
  cases q : fs e h with
  | bad => rw [q] at p; exact p
  | exc c f h => rw [q] at p; exact p
  | ok vs h1 =>
    rw [q] at p
    intro as1 H1 us x1 S1 r1
    have p : PostS X.K X.mg E as H D ((okIf (lenOk vs.length) (MV.tup vs) h1).bind fun v h1 => (evT G (.tup (.cons (.nm i) (.cons (.nm j) (.cons (.nm l) .nil)))) v e h1).nox.bind fun e1 h2 => .ok (.nx, e1) h2) := p
    cases hl : lenOk vs.length with
    | false => rw [hl] at p; exact False.elim p
    | true =>
      rw [hl] at p
      match vs, r1, p with
      | [], _, p => exact False.elim p
      | [_], _, p => exact False.elim p
      | [_, _], _, p => exact False.elim p
      | _ :: _ :: _ :: _ :: _, _, p => exact False.elim p
      | [u, v, w], r1, p =>
        obtain ⟨c, r, rfl, rc, r1⟩ := r1
        obtain ⟨a, b, rfl, ra, rb⟩ := RVs.two_inv r1
        exact ⟨c, a, b, rfl, p as1 H1 _ x1 S1 ((((En.ext x1).set rc i).set ra j).set rb l)⟩
theorem S_par3 {G : Callee} {i j l : Nat} {x y z : Str} {a b c : Expr} {px py pz pt : Pos} {kt k2 pt2} {fs : MEnv → MH → Res (List MV)} (ha : PA X [a, b, c] (rdEs X (wOf E) fs)) (hc : X.calm = true) (hN : X.N.Nodup) (hi : X.N[i]? = some x) (hj : X.N[j]? = some y) (hl : X.N[l]? = some z) (hij : i ≠ j) (hil : i ≠ l) (hjl : j ≠ l)
    (hx : X.env.scope.names.lookup x = some .local) (hy : X.env.scope.names.lookup y = some .local) (hz : X.env.scope.names.lookup z = some .local)
    (hw : swappedStores [.Tuple [.Name x px, .Name y py, .Name z pz] kt pt] (.Tuple [a, b, c] k2 pt2) X.env = pure (some [x, y, z]))
    (hs : swapsWithSole [.Tuple [.Name x px, .Name y py, .Name z pz] kt pt] (.Tuple [a, b, c] k2 pt2) pos.line X.env = pure false) :
    PS X (.Assign [.Tuple [.Name x px, .Name y py, .Name z pz] kt pt] (.Tuple [a, b, c] k2 pt2) pos) (rdS X E fun e h => ((fs e h).bind fun vs h1 => okIf (lenOk vs.length) (.tup vs) h1).bind fun v h1 => (evT G (.tup (.cons (.nm i) (.cons (.nm j) (.cons (.nm l) .nil)))) v e h1).nox.bind fun e1 h2 => .ok (.nx, e1) h2) :=
  PS.imp (ps_par3 hc hN hi hj hl hij hil hjl hx hy hz ha hw hs) fun D σ H q => par3_in (fun _ _ _ z => z) q
/-! ### x op= y -/
def rIp (X : Cx) (op : BO) : R2 := fun x y H Q => ∃ as h mx my, Sim X.K as H h ∧ RV X.K as H mx x ∧ RV X.K as H my y ∧ Post X.K X.mg wF (RVr X.K) as H [] Q (ipV op mx my h)
theorem ipV_cases (op : BO) (x y : MV) (h : MH) : (∃ z h', ipV op x y h = .ok z h') ∨ ipV op x y h = .bad := by
  have hb : ∀ op x y h, (∃ z h', binV op x y h = .ok z h') ∨ binV op x y h = .bad := fun op x y h => (binV_ok op x y h).imp (fun ⟨z, q⟩ => ⟨z, h, q⟩) id
  have he : ∀ n y, (∃ z h', extV (.ref n) y h = .ok z h') ∨ extV (.ref n) y h = .bad := fun n y => by
    cases q : h[n]? with
    | none => right; simp [extV, q]
    | some c =>
      cases c with
      | dct d => right; simp [extV, q]
      | lst xs =>
        cases q2 : derf h y with
        | lst ys =>
          cases q3 : (fltL ys && lenOk (xs.length + ys.length)) with
          | false => right; simp only [extV, q, q2, q3]; rfl
          | true => left; exact ⟨_, _, by simp only [extV, q, q2, q3]; rfl⟩
        | _ => right; simp only [extV, q, q2]
  cases op with
  | add =>
    cases x with
    | ref n => exact he n y
    | tup _ => exact .inr rfl
    | non => exact hb .add .non y h
    | bl b => exact hb .add (.bl b) y h
    | int b => exact hb .add (.int b) y h
    | str b => exact hb .add (.str b) y h
    | lst b => exact hb .add (.lst b) y h
    | scr b => exact hb .add (.scr b) y h
    | atm b => exact hb .add (.atm b) y h
  | sub => exact hb .sub x y h
  | mul => exact hb .mul x y h
  | fdiv => exact hb .fdiv x y h
  | mod => exact hb .mod x y h
  | pow => exact hb .pow x y h
theorem fltL_append' {xs ys : List MV} (h1 : fltL xs = true) (h2 : fltL ys = true) : fltL (xs ++ ys) = true := fltL_append h1 h2
theorem ip_addM : PIp X .Add (rIp X .add) := by
  intro pins s σ H x y v u Q I rx ry q
  obtain ⟨as, h, mx, my, S, r1, r2, p⟩ := q
  cases mx with
  | int a =>
    cases my with
    | int b => exact iop_add pins s σ H x y v u Q I rx ry ⟨a, b, r1, r2, p as H _ .refl S rfl⟩
    | _ => exact False.elim p
  | str a =>
    cases my with
    | str b =>
      have p : Post X.K X.mg wF (RVr X.K) as H [] Q (okIf (lenOk (a.cps.size + b.cps.size)) (.str (a ++ b)) h) := p
      obtain ⟨hl, p⟩ := p.okIf
      exact iop_add_str pins s σ H x y v u Q I rx ry ⟨a, b, r1, r2, Nat.le_of_lt (lenOk_line hl), p as H _ .refl S rfl⟩
    | _ => exact False.elim p
  | ref n =>
    have p : Post X.K X.mg wF (RVr X.K) as H [] Q (match h[n]? with
      | some (.lst xs) => match derf h my with
        | .lst ys => okIf (fltL ys && lenOk (xs.length + ys.length)) (.ref n) (h.set n (.lst (xs ++ ys)))
        | _ => .bad
      | _ => .bad) := p
    split at p
    · rename_i xs q
      split at p
      · rename_i ys q2
        obtain ⟨hl, p⟩ := p.okIf
        rw [Bool.and_eq_true] at hl
        obtain ⟨a, vs, rfl, ha, hH, rv, fl⟩ := S.lst q r1
        obtain ⟨b, ws, rfl, hb, rw'⟩ := S.derfL q2 r2
        refine iop_ext pins s σ H _ _ v u Q I rx ry ⟨a, b, vs, ws, rfl, rfl, hH, hb, by rw [← rv.length, ← rw'.length]; exact Nat.le_of_lt (lenOk_line hl.2), ?_⟩
        have x2 : Ext as H as (upd H a (.lst (vs ++ ws))) := Ext.put S (List.mem_of_getElem? ha)
        exact p as _ (.ref a) x2 (S.put ha (rv.append rw') (fltL_append fl hl.1)) ⟨a, ha, rfl⟩
      · exact False.elim p
    · exact False.elim p
  | tup _ => exact False.elim p
  | _ => cases my <;> exact False.elim p
theorem ip_subM : PIp X .Sub (rIp X .sub) := by
  intro pins s σ H x y v u Q I rx ry q
  obtain ⟨as, h, mx, my, S, r1, r2, p⟩ := q
  cases mx with
  | int a =>
    cases my with
    | int b => exact iop_sub pins s σ H x y v u Q I rx ry ⟨a, b, r1, r2, p as H _ .refl S rfl⟩
    | _ => exact False.elim p
  | _ => cases my <;> exact False.elim p
theorem S_aug {i : Nat} {x : Str} {e : Expr} {p1 : Pos} {op : BO} {fa : MEnv → MH → Res MV} (he : PE X e (rdE X (wOf E) fa)) (ho : PIp X (opOf op) (rIp X op)) (hN : X.N.Nodup) (hi : X.N[i]? = some x) (hx : Loc X.env.scope x) (hf : X.fn x = true ∨ X.env.scope.names.lookup x = some .local) :
    PS X (.AugAssign (.Name x p1) (opOf op) e pos) (rdS X E fun e h => match e[i]? with
    | some (some x) => (fa e h).bind fun y h1 => (ipV op x y h1).bind fun z h2 => .ok (.nx, e.set i (some z)) h2
    | _ => .bad) := by
  refine PS.imp (ps_aug hN hi hx he ho hf) fun D σ H ⟨as, h, e, S, En, p⟩ => ?_
  have p : PostS X.K X.mg E as H D (match e[i]? with
    | some (some x) => (fa e h).bind fun y h1 => (ipV op x y h1).bind fun z h2 => .ok (.nx, e.set i (some z)) h2
    | _ => .bad) := p
  split at p
  · rename_i x q
    obtain ⟨v, hv, rv⟩ := En.at_ i x q
    refine ⟨v, hv, as, h, e, S, En, PostS.bind p fun y h1 as1 H1 w x1 S1 r1 p1 => ⟨as1, h1, x, y, S1, RV.ext x1 _ _ rv, r1, ?_⟩⟩
    rcases ipV_cases op x y h1 with ⟨z, h2, q2⟩ | q2
    · rw [q2] at p1 ⊢
      exact fun as2 H2 b x2 S2 r2 => p1 as2 H2 _ x2 S2 (((En.ext x1).ext x2).set r2 i)
    · rw [q2] at p1
      exact False.elim p1
  · exact False.elim p
/-! ### loops -/
theorem S_whl {L : Option Nat} {c : Expr} {body : List Stmt} {fc : MEnv → MH → Res Bool} {fb : MEnv → MH → Res (Fl × MEnv)} (hp : PassesOwn (model X.prog X.w) X.A X.env X.xe) (hc : PT X c (rdB X (wOf E) fc)) (hb : PSs X body (rdS X E fb)) :
    PS X (.While c body [] pos) (rdS X E fun e h => whl L fc fb e h) := by
  refine PS.imp (ps_while hp hc hb) fun D σ H ⟨as, h, e, S, En, p⟩ => ?_
  have start : ∃ n, PostS X.K X.mg E as H D (whlN fc fb n e h) := by
    have p : PostS X.K X.mg E as H D (whl L fc fb e h) := p
    cases L with
    | some n => exact ⟨n, p⟩
    | none =>
      have p : PostS X.K X.mg E as H D (whlF fc fb e h) := p
      unfold whlF at p
      split at p
      · exact ⟨_, p⟩
      · exact False.elim p
  obtain ⟨n, p⟩ := start
  refine ⟨fun m σ H => ∃ as h e, Sim X.K as H h ∧ EnvR X.K as H e σ ∧ PostS X.K X.mg E as H D (whlN fc fb m e h), ⟨n, as, h, e, S, En, p⟩, ?_⟩
  rintro m σ H ⟨as, h, e, S, En, p⟩
  cases m with
  | zero => exact False.elim p
  | succ m =>
    refine ⟨as, h, e, S, En, PostS.bind p fun k h1 as1 H1 b x1 S1 r1 p1 => ?_⟩
    cases r1
    cases k with
    | false =>
      rw [if_neg Bool.false_ne_true]
      exact p1 as1 H1 σ .refl S1 (En.ext x1)
    | true =>
      rw [if_pos rfl]
      refine ⟨fun σ H => ∃ as h e, Sim X.K as H h ∧ EnvR X.K as H e σ ∧ PostS X.K X.mg E as H D (whlN fc fb m e h), fun σ' H' q => ⟨m, Nat.lt_succ_self m, q⟩, as1, h1, e, S1, En.ext x1, ?_⟩
      refine PostS.seq (show PostS X.K X.mg E as1 H1 D ((fb e h1).bind fun fe h2 => match fe.1 with
        | .nx => whlN fc fb m fe.2 h2
        | .ct => whlN fc fb m fe.2 h2
        | .bk => .ok (.nx, fe.2) h2
        | .rt v => .ok (.rt v, fe.2) h2) from p1) fun fl e' h' as' H' x S' p' => ?_
      cases fl with
      | nx => exact fun σ' E' => ⟨as', h', e', S', E', p'⟩
      | ct => exact fun σ' E' => ⟨as', h', e', S', E', p'⟩
      | bk => exact fun σ' E' => p' as' H' σ' .refl S' E'
      | rt v => exact fun y r => p' as' H' y .refl S' r
theorem S_for {tg iter : Expr} {body : List Stmt} {own : List Nat} {fi : MEnv → MH → Res Src} {ft : MV → MEnv → MH → Res MEnv} {fb : MEnv → MH → Res (Fl × MEnv)} (hp : PassesOwn (model X.prog X.w) X.A X.env X.xe) (hc : X.calm = true)
    (hi : PI X tg iter (rdI X (wOf E) fi)) (hg : PG X tg (rdT X.K own ft)) (hb : PSs X body (rdS X E fb)) (hs : ∀ x, foldedSetIterable iter X.env x = pure x) :
    PS X (.For tg iter body [] pos) (rdS X E fun e h => (fi e h).bind fun s h1 => forL ft fb s.stays s.items e h1) := by
  refine PS.imp (ps_for hp hc hi hg hb hs) fun D σ H ⟨as, h, e, S, En, p⟩ => ⟨as, h, e, S, En, ?_⟩
  dsimp only at p
  cases q : fi e h with
  | bad => rw [q] at p; exact p
  | exc c f h => rw [q] at p; exact p
  | ok s h1 =>
    rw [q] at p
    have p : PostS X.K X.mg E as H D (forL ft fb s.stays s.items e h1) := p
    intro as1 H1 J x1 S1 hJ
    refine ⟨fun i k σ H2 => ∃ as2 h2 e2, Ext as1 H1 as2 H2 ∧ Sim X.K as2 H2 h2 ∧ EnvR X.K as2 H2 e2 σ ∧ s.stays h2 = true ∧ i + k = s.items.length ∧ PostS X.K X.mg E as2 H2 D (forL ft fb s.stays (s.items.drop i) e2 h2),
      ⟨s.items.length, as1, h1, e, .refl, S1, En.ext x1, hJ.stay, by omega, p.later x1⟩, ?_⟩
    rintro i k σ2 H2 ⟨as2, h2, e2, x2, S2, E2, st2, hk, p2⟩
    have t := hJ.turn as2 H2 h2 i x2.toWk S2 st2
    by_cases hi : i < s.items.length
    · obtain ⟨go, yl⟩ := t.2 hi
      refine .inr ⟨go, fun σ' H' => ∃ as2 h2 e2, Ext as1 H1 as2 H' ∧ Sim X.K as2 H' h2 ∧ EnvR X.K as2 H' e2 σ' ∧ s.stays h2 = true ∧ (i + 1) + (k - 1) = s.items.length ∧ PostS X.K X.mg E as2 H' D (forL ft fb s.stays (s.items.drop (i + 1)) e2 h2),
        fun σ' H' n => ⟨k - 1, by omega, n⟩, fun x H3 y => ?_⟩
      obtain ⟨it, g1, xE, S3, rv⟩ := yl x H3 y
      have hdr : s.items.drop i = it :: s.items.drop (i + 1) := by
        obtain ⟨hl, e1⟩ := List.getElem?_eq_some_iff.mp g1
        rw [List.drop_eq_getElem_cons hl, e1]
      rw [hdr] at p2
      have p2 : PostS X.K X.mg E as2 H2 D ((ft it e2 h2).nox.bind fun e1 h1 => (fb e1 h1).bind fun fe h2 => match fe.1 with
        | .nx => if s.stays h2 then forL ft fb s.stays (s.items.drop (i + 1)) fe.2 h2 else .bad
        | .ct => if s.stays h2 then forL ft fb s.stays (s.items.drop (i + 1)) fe.2 h2 else .bad
        | .bk => .ok (.nx, fe.2) h2
        | .rt v => .ok (.rt v, fe.2) h2) := p2
      refine ⟨as2, h2, e2, it, S3, E2.ext xE, rv, ?_⟩
      cases q : ft it e2 h2 with
      | bad => rw [q] at p2; exact p2
      | exc c f h => rw [q] at p2; exact p2
      | ok e1 h3 =>
        rw [q] at p2
        intro as3 H4 σ3 x3 S4 E4 o4
        refine ⟨as3, h3, e1, S4, E4, ?_⟩
        have x24 : Ext as2 H2 as3 H4 := xE.trans x3
        refine PostS.seq (show PostS X.K X.mg E as3 H4 D ((fb e1 h3).bind fun fe h2 => match fe.1 with
          | .nx => if s.stays h2 then forL ft fb s.stays (s.items.drop (i + 1)) fe.2 h2 else .bad
          | .ct => if s.stays h2 then forL ft fb s.stays (s.items.drop (i + 1)) fe.2 h2 else .bad
          | .bk => .ok (.nx, fe.2) h2
          | .rt v => .ok (.rt v, fe.2) h2) from PostS.later x24 p2) fun fl e' h' as' H' x S' p' => ?_
        have next : (PostS X.K X.mg E as' H' D (if s.stays h' then forL ft fb s.stays (s.items.drop (i + 1)) e' h' else .bad)) → ∀ σ', EnvR X.K as' H' e' σ' → ∃ as2 h2 e2, Ext as1 H1 as2 H' ∧ Sim X.K as2 H' h2 ∧ EnvR X.K as2 H' e2 σ' ∧ s.stays h2 = true ∧ (i + 1) + (k - 1) = s.items.length ∧ PostS X.K X.mg E as2 H' D (forL ft fb s.stays (s.items.drop (i + 1)) e2 h2) := fun p' σ' E' => by
          cases hst : s.stays h' with
          | false => rw [hst] at p'; exact False.elim p'
          | true => rw [hst] at p'; exact ⟨as', h', e', (x2.trans x24).trans x, S', E', hst, by omega, p'⟩
        cases fl with
        | nx => exact next p'
        | ct => exact next p'
        | bk => exact fun σ' E' => p' as' H' σ' .refl S' E'
        | rt v => exact fun y r => p' as' H' y .refl S' r
    · have hi' : i = s.items.length := by omega
      refine .inl ⟨t.1 hi', ?_⟩
      rw [List.drop_of_length_le (by omega)] at p2
      exact p2 as2 H2 σ2 .refl S2 E2
/-- raise C('m') -/
theorem S_raise {x m : Str} {j : Nat} {p1 p2 p3 : Pos} {C : Addr} {B newId initId : String} {bmB : List Value} (hc : X.calm = true) (tk : Takes X (wOf E)) (F : ExcBaseFacts B newId initId bmB) (q : PySem.W.excIn X.K C bmB newId = true) (gC : X.mg x = some (.ref C)) (kC : PySem.W.keepIn X.K (.ref C) = true) (r : Raises X (.ref C)) (hg : Gl X x)
    (hdb : (x == ("__debug__" : Str)) = false) : PS X (.Raise (some (.Call (.Name x p1) [.Constant (.str m) j p2] [] p3)) none pos) (rdS X E fun _ h => .exc x [] h) := by
  refine PS.imp (ps_raise hc tk (pmk_own F q gC kC r hg hdb)) fun D σ H ⟨as, h, e, S, En, p⟩ => ?_
  exact p as H (.ref C) none .refl S ⟨C, gC, rfl, .inl ⟨rfl, rfl⟩⟩
end
end MM
set_option Elab.async false
set_option linter.all false
set_option maxRecDepth 100000
/-! M11: a def as a whole. -/
namespace MM
open PySem PySem.Spec PyProof.Rows L2
def Trk.cut (t : Trk) (n : Nat) : Trk := ⟨t.c.take n, t.x⟩
theorem Trk.mem_cut {t : Trk} {n : Nat} {a : Addr} (h : a ∈ t.cut n) : a ∈ t := by
  rcases h with h | h
  · exact .inl (List.mem_of_mem_take h)
  · exact .inr h
section
variable {K : PySem.W.Frag} {as : Trk} {H : Hp} {h : MH} {n : Nat}
mutual
theorem RV.cutF : ∀ (x : MV) (v : V), flt x = true → RV K as H x v → RV K (as.cut n) H x v
  | .non, v, _, h => h
  | .bl _, v, _, h => h
  | .int _, v, _, h => h
  | .str _, v, _, h => h
  | .tup xs, v, f, h => by
    obtain ⟨a, vs, rfl, t, r⟩ := h
    refine ⟨a, vs, rfl, ?_, RVs.cutF xs vs (by simpa [flt] using f) r⟩
    rcases t with ⟨t, n⟩ | t
    · exact .inl ⟨t, fun z => n (Trk.mem_cut z)⟩
    · exact .inr t
  | .lst _, _, f, _ => by simp [flt] at f
  | .scr _, _, f, _ => by simp [flt] at f
  | .ref _, _, f, _ => by simp [flt] at f
  | .atm _, _, f, _ => by simp [flt] at f
theorem RVs.cutF : ∀ (xs : List MV) (vs : List V), fltL xs = true → RVs K as H xs vs → RVs K (as.cut n) H xs vs
  | [], vs, _, h => h
  | x :: xs, vs, f, h => by
    obtain ⟨v, r, rfl, a, b⟩ := h
    simp only [fltL, Bool.and_eq_true] at f
    exact ⟨v, r, rfl, RV.cutF x v f.1 a, RVs.cutF xs r f.2 b⟩
end
theorem RK.cutF : ∀ (xs : List (Int × MV)) (vs : List (Key × V)), fltL (xs.map (·.2)) = true → RK K as H xs vs → RK K (as.cut n) H xs vs
  | [], vs, _, h => h
  | (k, x) :: xs, vs, f, h => by
    obtain ⟨v, r, rfl, a, b⟩ := h
    simp only [List.map_cons, fltL, Bool.and_eq_true] at f
    exact ⟨v, r, rfl, RV.cutF x v f.1 a, RK.cutF xs r f.2 b⟩
mutual
theorem RV.thaw (S : Sim K as H h) : ∀ (x : MV) (v : V), thk n h x = true → RV K as H x v → RV K (as.cut n) H (thaw n h x) v
  | .non, v, _, h => h
  | .bl _, v, _, h => h
  | .int _, v, _, h => h
  | .str _, v, _, h => h
  | .atm _, v, _, h => h
  | .tup xs, v, k, h => by
    obtain ⟨a, vs, rfl, t, r⟩ := h
    refine ⟨a, vs, rfl, ?_, RVs.thaw S xs vs k r⟩
    rcases t with ⟨t, n⟩ | t
    · exact .inl ⟨t, fun z => n (Trk.mem_cut z)⟩
    · exact .inr t
  | .lst xs, v, k, h => by
    obtain ⟨a, vs, rfl, t, n, r⟩ := h
    exact ⟨a, vs, rfl, t, fun z => n (Trk.mem_cut z), RVs.thaw S xs vs k r⟩
  | .scr xs, v, k, h => by
    obtain ⟨a, vs, rfl, t, r⟩ := h
    refine ⟨a, vs, rfl, ?_, RVs.thaw S xs vs k r⟩
    rcases t with ⟨o, t, n⟩ | t
    · exact .inl ⟨o, t, fun z => n (Trk.mem_cut z)⟩
    · exact .inr t
  | .ref m, v, k, r => by
    obtain ⟨a, q, rfl⟩ := r
    show RV K (as.cut n) H (thawR n h m) (.ref a)
    have k : (Nat.blt m n || match h[m]? with | some (.lst _) => true | _ => false) = true := k
    unfold thawR
    cases hb : Nat.blt m n with
    | true =>
      have hm : m < n := by simpa [Nat.blt_eq] using hb
      rw [if_pos rfl]
      exact ⟨a, by show (as.c.take n)[m]? = some a; rw [List.getElem?_take_of_lt hm]; exact q, rfl⟩
    | false =>
      have hm : ¬ m < n := fun z => by
        have := (Nat.blt_eq).mpr z
        rw [hb] at this; cases this
      rw [if_neg Bool.false_ne_true]
      rw [hb, Bool.false_or] at k
      split at k
      · rename_i xs e
        try rw [e]
        obtain ⟨b, vs, eb, hb', hH, rv, fl⟩ := S.lst e (v := .ref a) ⟨a, q, rfl⟩
        cases eb
        refine ⟨a, vs, rfl, hH, fun z => ?_, RVs.cutF _ _ fl rv⟩
        rcases z with z | z
        · obtain ⟨i, hi, e1⟩ := List.getElem_of_mem (show a ∈ as.c.take n from z)
          have hi' : i < n := by rw [List.length_take] at hi; omega
          have e2 : as.c[i]? = some a := by
            have := List.getElem?_eq_getElem hi
            rw [List.getElem?_take_of_lt hi', e1] at this
            exact this
          have := (List.getElem?_inj (List.getElem?_eq_some_iff.mp q).1 S.nd).mp (q.trans e2.symm)
          omega
        · exact (S.hid a z).2 (List.mem_of_getElem? q)
      · cases k
theorem RVs.thaw (S : Sim K as H h) : ∀ (xs : List MV) (vs : List V), thkL n h xs = true → RVs K as H xs vs → RVs K (as.cut n) H (thawL n h xs) vs
  | [], vs, _, h => h
  | x :: xs, vs, k, h => by
    obtain ⟨v, r, rfl, a, b⟩ := h
    have k : (thk n h x && thkL n h xs) = true := k
    rw [Bool.and_eq_true] at k
    exact ⟨v, r, rfl, RV.thaw S x v k.1 a, RVs.thaw S xs r k.2 b⟩
end
theorem Sim.cut (S : Sim K as H h) (n : Nat) : Sim K (as.cut n) H (h.take n) := by
  refine ⟨by simp [Trk.cut, S.len], S.nd.sublist (List.take_sublist _ _), fun i c a q q2 => ?_, fun a m => ⟨(S.hid a m).1, fun z => (S.hid a m).2 (List.mem_of_mem_take z)⟩⟩
  have q2 : (as.c.take n)[i]? = some a := q2
  have hi : i < n := by
    have := (List.getElem?_eq_some_iff.mp q).1
    rw [List.length_take] at this
    omega
  rw [List.getElem?_take_of_lt hi] at q q2
  have r := S.cell i c a q q2
  cases c with
  | lst xs => obtain ⟨vs, e, r, f⟩ := r; exact ⟨vs, e, RVs.cutF _ _ f r, f⟩
  | dct xs => obtain ⟨vs, e, r, f⟩ := r; exact ⟨vs, e, RK.cutF _ _ f r, f⟩
theorem Ext.cut {as0 : Trk} {H0 : Hp} (x : Ext as0 H0 as H) : Ext as0 H0 (as.cut as0.c.length) H := by
  refine ⟨⟨?_, fun a o q m => ?_⟩, x.hx, x.hid⟩
  · obtain ⟨t, e⟩ := x.pre
    exact ⟨[], by show as.c.take _ = _; rw [e]; simp⟩
  · obtain ⟨h1, h2⟩ := x.keep a o q m
    exact ⟨h1, fun z => h2 (Trk.mem_cut z)⟩
end
section
variable {P : Program} {w : World} {K : PySem.W.Frag} {mg : Str → Option Value} {base : Heap}
theorem fin_in {E : XK} {as : Trk} {H : Hp} {h0 : MH} {cut : Bool} {Q : VK} {r : Res (Fl × MEnv)} (hl : as.c.length = h0.length) (p : Post K mg (wOf E) (RVr K) as H [] Q (finFn cut h0 r)) :
    PostS K mg E as H { nx := fun _ H' => Q .non H', rt := Q } r := by
  cases r with
  | bad => exact p
  | exc c f h =>
    cases cut with
    | false => exact p
    | true =>
      cases f with
      | nil =>
        have p : Post K mg (wOf E) (RVr K) as H [] Q (.exc c [] (h.take h0.length)) := p
        intro as' H' cls d x S xr
        rw [← hl] at p
        refine p (as'.cut as.c.length) H' cls d x.cut (S.cut _) ?_
        obtain ⟨C, h1, h2, h3 | ⟨h3, _⟩⟩ := xr
        · exact ⟨C, h1, h2, .inl h3⟩
        · exact absurd rfl h3
      | cons a b => exact False.elim p
  | ok fe h =>
    obtain ⟨fl, e⟩ := fe
    cases fl with
    | bk => exact False.elim p
    | ct => exact False.elim p
    | nx =>
      cases cut with
      | false => exact fun as' H' σ' x S _ => p as' H' .non x S rfl
      | true =>
        have p : Post K mg (wOf E) (RVr K) as H [] Q (.ok .non (h.take h0.length)) := p
        rw [← hl] at p
        exact fun as' H' σ' x S _ => p (as'.cut as.c.length) H' .non x.cut (S.cut _) rfl
    | rt v =>
      cases cut with
      | false => exact fun as' H' y x S r => p as' H' y x S r
      | true =>
        have p : Post K mg (wOf E) (RVr K) as H [] Q (if thk h0.length h v then .ok (thaw h0.length h v) (h.take h0.length) else .bad) := p
        cases hk : thk h0.length h v with
        | false => rw [hk] at p; exact False.elim p
        | true =>
          rw [hk] at p
          rw [← hl] at p hk
          exact fun as' H' y x S r => p (as'.cut as.c.length) H' y x.cut (S.cut _) (RV.thaw S v y hk r)
theorem EnvR_start {as : Trk} {H : Hp} : ∀ {ms : List MV} {vs : List V} (n : Nat), RVs K as H ms vs → EnvR K as H (ms.map some ++ List.replicate n none) (vs.map some ++ List.replicate n none) := fun {ms vs} n r => by
  refine ⟨by simp [r.length], fun i x q => ?_⟩
  by_cases hi : i < ms.length
  · rw [List.getElem?_append_left (by simpa using hi)] at q
    rw [List.getElem?_append_left (by simpa [← r.length] using hi)]
    rw [List.getElem?_map] at q
    cases e : ms[i]? with
    | none => rw [e] at q; cases q
    | some y =>
      rw [e] at q
      have : y = x := Option.some.inj (Option.some.inj q)
      subst this
      obtain ⟨v, h1, h2⟩ := r.get e
      exact ⟨v, by rw [List.getElem?_map, h1]; rfl, h2⟩
  · rw [List.getElem?_append_right (by simp; omega)] at q
    obtain ⟨_, q⟩ := List.getElem?_eq_some_iff.mp q
    simp at q
/-- a def, by its body -/
theorem FnG.of {x qual : Str} {st : Stmt} {f : Addr} {fd : FuncData} {N ps : List Str} {k : Nat} {sp : Sp} (F : Fun K x qual st f fd) (S : FnScope N ps (defScope st)) (len : ∀ vs H Q E, sp vs H Q E → vs.length = ps.length)
    (hbody : ∀ (cdv : Value) (A : Around) (outer : List Env) (s : Shared) (H : Hp) (vs : List V) (Q : VK) (E : XK), RoomG k (A.deeper (envOfC qual (defScope st) s.heap.objs.size f cdv)) → sp vs H Q E →
      ∃ t, PSs (cxOf (L2.CX P w) P w K mg base N qual (defScope st) f cdv A outer s H E) (defBody st) t ∧ t { nx := fun _ H' => Q .non H', rt := Q } (L2.start N vs) H) : FnG P w K mg base (k + 1) f fd ps sp := by
  obtain ⟨oc, od, kV, doc, pm, an, cdv, ct, osl, rfl, lk, hcd⟩ := F.ex
  refine ⟨len, fun A outer s H args us vs Q E ⟨hr, hgd⟩ e0 hb r hsp => ?_⟩
  have at_ : ∀ b o, base.get? b = some o → s.heap.get? b = some o := fun b o e => (e0.bs b o e).1
  have KX : K.In s.heap := e0.mod.kin.keeps at_
  refine codeAny_call_function hr.depth (KX _ _ lk) rfl S.co S.gen rfl (PySem.W.codeRec_of KX hcd) (hb _ _ _ _ ?_)
  refine wpAny_newFunctionEnv_cells S.kind (fun y hy => ?_) fun env he s1 ic => ?_
  · rcases S.par y.1 (List.of_mem_zip (show (y.1, y.2) ∈ ps.zip us from hy)).1 with q | q
    · exact .inl q
    · exact .inr ⟨q, PySem.W.cellsFrom_some _ _ _ (.inl q)⟩
  · subst he
    refine ⟨(e0.mod.nolimit.keeps at_).keeps ic.toInCall.keep, codeAny_func ?_⟩
    obtain ⟨t, ht, hq⟩ := hbody cdv A outer s H vs Q E ⟨hr.deeper _, hgd⟩ hsp
    refine wpAny_mono (ht.run [] s1 (L2.start N vs) H _ (inv_start S hr.hd e0 (len _ _ _ _ hsp) r ic) hq) (fun fl s' hs => ?_) fun e s' hs => hs
    cases fl with
    | ret u => obtain ⟨v, σ', H', J, rv, q⟩ := hs; exact ⟨v, H', J.os, J.bare, J.base, J.hok, rv, q⟩
    | next => obtain ⟨σ', H', J, q⟩ := hs; exact ⟨.non, H', J.os, J.bare, J.base, J.hok, rfl, q⟩
    | brk => obtain ⟨_, _, _, q⟩ := hs; exact False.elim q
    | cont => obtain ⟨_, _, _, q⟩ := hs; exact False.elim q
/-- a def keeps its promise -/
theorem fn_okM {x qual : Str} {st : Stmt} {f : Addr} {fd : FuncData} {N ps : List Str} {k i : Nat} {L : Option Nat} {T : Nat → Option Fn} {fn : Fn} (F : Fun K x qual st f fd) (S : FnScope N ps (defScope st)) (hT : T i = some fn) (hps : fn.ps = ps.length) (hns : fn.ns = N.length)
    (hbody : ∀ (cdv : Value) (A : Around) (outer : List Env) (s : Shared) (H : Hp) (E : XK), RoomG k (A.deeper (envOfC qual (defScope st) s.heap.objs.size f cdv)) →
      PSs (cxOf (L2.CX P w) P w K mg base N qual (defScope st) f cdv A outer s H E) (defBody st) (rSs (cxOf (L2.CX P w) P w K mg base N qual (defScope st) f cdv A outer s H E) E L (callK L T k) fn.body)) :
    FnG P w K mg base (k + 1) f fd ps (spM K mg ps.length (callK L T (k + 1) i)) := by
  refine FnG.of F S (fun vs H Q E h => h.1) fun cdv A outer s H vs Q E hr h => ⟨_, hbody cdv A outer s H E hr, ?_⟩
  obtain ⟨hl, as, h, ms, Si, r, p⟩ := h
  have p : Post K mg (wOf E) (RVr K) as H [] Q (match T i with | some f => runFn L (callK L T k) f ms h | none => .bad) := p
  rw [hT] at p
  have p : Post K mg (wOf E) (RVr K) as H [] Q (if ms.length = fn.ps then finFn fn.cut h (evSs L (callK L T k) fn.body (ms.map some ++ List.replicate (fn.ns - fn.ps) none) h) else .bad) := p
  split at p
  · refine ⟨as, h, ms.map some ++ List.replicate (fn.ns - fn.ps) none, Si, ?_, fin_in Si.len p⟩
    have e : N.length - vs.length = fn.ns - fn.ps := by rw [hns, hps, hl]
    unfold L2.start
    rw [e]
    exact EnvR_start _ r
  · exact False.elim p
theorem callK_len {L : Option Nat} {T : Nat → Option Fn} {i n : Nat} {fn : Fn} (hT : T i = some fn) (hn : fn.ps = n) : ∀ k ms h, ms.length ≠ n → callK L T k i ms h = .bad := fun k ms h hl => by
  cases k with
  | zero => rfl
  | succ k =>
    show (match T i with | some f => runFn L (callK L T k) f ms h | none => .bad) = .bad
    rw [hT]
    show (if ms.length = fn.ps then _ else _) = _
    rw [if_neg (by rw [hn]; exact hl)]
/-- a def at no level -/
theorem fn_ok0 {f : Addr} {fd : FuncData} {ps : List Str} {L : Option Nat} {T : Nat → Option Fn} {i : Nat} : FnG P w K mg base 0 f fd ps (spM K mg ps.length (callK L T 0 i)) :=
  ⟨fun vs H Q E h => h.1, fun _ _ _ _ _ _ _ _ _ _ _ _ _ h => by obtain ⟨_, as, h, ms, _, _, p⟩ := h; exact False.elim p⟩
end
end MM
set_option Elab.async false
set_option linter.all false
set_option maxRecDepth 100000
/-! M12: the rules by syntax. -/
namespace MM
open PySem PySem.Spec PyProof.Rows L2
section
variable {X : Cx} {W : WX} {G : Callee} {pos : Pos}
theorem c_var (i : Nat) {x : Str} (hN : X.N[i]? = some x := by rfl) (hv : Vis X.env.scope x := by first | exact Or.inl rfl | exact Or.inr (Or.inl rfl) | exact Or.inr (Or.inr rfl)) (hd : (x == ("__debug__" : Str)) = false := by decide) (hcd : (x == ("__classdict__" : Str)) = false := by decide) :
    PE X (.Name x pos) (rE X W G (.var i)) := s_var (N := []) hN hv hd hcd
theorem c_int {i : Int} {j : Nat} : PE X (.Constant (.int i) j pos) (rE X W G (.int i)) := s_const (m := .int i) pe_int fun _ _ => rfl
theorem c_bl {b : Bool} {j : Nat} : PE X (.Constant (.bool b) j pos) (rE X W G (.bl b)) := s_const (m := .bl b) pe_bl fun _ _ => rfl
theorem c_non {j : Nat} : PE X (.Constant .none j pos) (rE X W G .non) := s_const (m := .non) pe_non fun _ _ => rfl
theorem c_str {x : Str} {j : Nat} : PE X (.Constant (.str x) j pos) (rE X W G (.str x)) := s_const (m := .str x) pe_str fun _ _ => rfl
/-- a name of the module -/
def GV (K : PySem.W.Frag) (mg : Str → Option Value) (x : Str) (m : MV) : Prop := ∃ v u, mg x = some u ∧ RelV v u ∧ ∀ as H, RV K as H m v
theorem c_glb {x : Str} {m : MV} (h : GV X.K X.mg x m) (hg : Gl X x := by rfl) (hd : (x == ("__debug__" : Str)) = false := by decide) : PE X (.Name x pos) (rE X W G (.glb x m)) := by
  obtain ⟨v, u, h1, h2, h3⟩ := h
  exact s_const (pe_glob hg h1 h2 hd) h3
theorem c_bin {op : BO} {a b : Expr} {ma mb : ME} (ha : PE X a (rE X W G ma)) (hb : PE X b (rE X W G mb)) : PE X (.BinOp a (opOf op) b pos) (rE X W G (.bin op ma mb)) := s_bin ha hb
theorem c_neg {a : Expr} {ma : ME} (ha : PE X a (rE X W G ma)) : PE X (.UnaryOp .USub a pos) (rE X W G (.neg ma)) := s_neg ha
theorem c_cmp {k : Nat} (hr : RoomG k X.A) {op : CO} {a b : Expr} {ma mb : ME} (ha : PE X a (rE X W G ma)) (hb : PE X b (rE X W G mb)) (hm : behindInMarks (coOf op) b = false := by first | exact nomark _ | rfl) :
    PE X (.Compare a [coOf op] [b] pos) (rE X W G (.cmp op ma mb)) := s_cmp (room65 hr.room) ha hb hm
theorem c_cmp2 {k : Nat} (hr : RoomG k X.A) {o1 o2 : CO} {a b c : Expr} {ma mb mc : ME} (ha : PE X a (rE X W G ma)) (hb : PE X b (rE X W G mb)) (hc : PE X c (rE X W G mc)) (hm : lastMarks [coOf o1, coOf o2] [b, c] = false := by with_unfolding_all rfl) :
    PE X (.Compare a [coOf o1, coOf o2] [b, c] pos) (rE X W G (.cmp2 o1 o2 ma mb mc)) := s_cmp2 (room65 hr.room) ha hb hc hm
theorem c_isN {a : Expr} {p2 : Pos} {j : Nat} {ma : ME} (ha : PE X a (rE X W G ma)) : PE X (.Compare a [.Is] [.Constant .none j p2] pos) (rE X W G (.isN ma)) := s_isN ha
theorem c_notN {a : Expr} {p2 : Pos} {j : Nat} {ma : ME} (ha : PE X a (rE X W G ma)) : PE X (.Compare a [.IsNot] [.Constant .none j p2] pos) (rE X W G (.notN ma)) := s_notN ha
theorem c_isB {k : Bool} {a : Expr} {p2 : Pos} {j : Nat} {ma : ME} (ha : PE X a (rE X W G ma)) : PE X (.Compare a [.Is] [.Constant (.bool k) j p2] pos) (rE X W G (.isB k ma)) := s_isB ha
theorem c_notB {k : Bool} {a : Expr} {p2 : Pos} {j : Nat} {ma : ME} (ha : PE X a (rE X W G ma)) : PE X (.Compare a [.IsNot] [.Constant (.bool k) j p2] pos) (rE X W G (.notB k ma)) := s_notB ha
theorem c_not {a : Expr} {ma : ME} (ha : PE X a (rE X W G ma)) : PE X (.UnaryOp .Not a pos) (rE X W G (.not_ ma)) := s_not ha
theorem c_one {op : BoolOp} {a : Expr} {ma : ME} (ha : PE X a (rE X W G ma)) : PE X (.BoolOp .And [a] pos) (rE X W G (.and_ (.cons ma .nil))) := s_one ha
theorem c_oneO {op : BoolOp} {a : Expr} {ma : ME} (ha : PE X a (rE X W G ma)) : PE X (.BoolOp .Or [a] pos) (rE X W G (.or_ (.cons ma .nil))) := s_one ha
theorem c_and {a b : Expr} {rest : List Expr} {ma mb : ME} {ms : MEs} (ha : PE X a (rE X W G ma)) (hb : PE X (.BoolOp .And (b :: rest) pos) (rE X W G (.and_ (.cons mb ms)))) : PE X (.BoolOp .And (a :: b :: rest) pos) (rE X W G (.and_ (.cons ma (.cons mb ms)))) := s_and ha hb
theorem c_or {a b : Expr} {rest : List Expr} {ma mb : ME} {ms : MEs} (ha : PE X a (rE X W G ma)) (hb : PE X (.BoolOp .Or (b :: rest) pos) (rE X W G (.or_ (.cons mb ms)))) : PE X (.BoolOp .Or (a :: b :: rest) pos) (rE X W G (.or_ (.cons ma (.cons mb ms)))) := s_or ha hb
theorem c_ite {c a b : Expr} {mc : MB} {ma mb : ME} (hc : PT X c (rB X W G mc)) (ha : PE X a (rE X W G ma)) (hb : PE X b (rE X W G mb)) : PE X (.IfExp c a b pos) (rE X W G (.ite mc ma mb)) := s_ite hc ha hb
theorem c_tup {es : List Expr} {k : Nat} {ms : MEs} (h : PA X es (rEs X W G ms)) : PE X (.Tuple es k pos) (rE X W G (.tup ms)) := s_tup h
theorem c_ix {a b : Expr} {ma mb : ME} (ha : PE X a (rE X W G ma)) (hb : PE X b (rE X W G mb)) (hs : ∀ l u s p, b ≠ .Slice l u s p := by intro _ _ _ _ h; cases h) : PE X (.Subscript a b pos) (rE X W G (.ix ma mb)) := s_ix ha hb hs
theorem c_sl {a : Expr} {lo hi : Option Expr} {p2 : Pos} {ma : ME} {ml mh : MO} (ha : PE X a (rE X W G ma)) (hl : PO X lo (rO X W G ml)) (hh : PO X hi (rO X W G mh)) : PE X (.Subscript a (.Slice lo hi none p2) pos) (rE X W G (.sl ma ml mh)) := s_sl ha hl hh
theorem c_oN : PO X none (rO X W G .none) := o_none
theorem c_oS {a : Expr} {ma : ME} (ha : PE X a (rE X W G ma)) : PO X (some a) (rO X W G (.some ma)) := o_some ha
theorem c_nil : PA X [] (rEs X W G .nil) := a_nil
theorem c_cons {a : Expr} {es : List Expr} {ma : ME} {ms : MEs} (ha : PE X a (rE X W G ma)) (hr : PA X es (rEs X W G ms)) (hs : starEach (a :: es) X.env = (false, eval a X.env) :: starEach es X.env := by rfl) : PA X (a :: es) (rEs X W G (.cons ma ms)) := a_cons ha hr hs
theorem c_call {k i : Nat} {x : Str} {e : Expr} {es : List Expr} {p : Pos} {ms : MEs} (C : Cal X.prog X.w X.K X.mg X.base k G i x) (hr : RoomG k X.A) (tk : Takes X W) (ha : PA X (e :: es) (rEs X W G ms)) (hg : Gl X x := by rfl)
    (hdb : (x == ("__debug__" : Str)) = false := by decide) (he : starEach (e :: es) X.env = (false, eval e X.env) :: starEach es X.env := by rfl) (hpl : (backTo pos (starEach es X.env)).any (·.1) = false := by rfl) : PE X (.Call (.Name x p) (e :: es) [] pos) (rE X W G (.call i ms)) := s_call C hr tk hg ha hdb he hpl
theorem c_call0 {k i : Nat} {x : Str} {p : Pos} (C : Cal X.prog X.w X.K X.mg X.base k G i x) (hr : RoomG k X.A) (tk : Takes X W) (hg : Gl X x := by rfl) (hdb : (x == ("__debug__" : Str)) = false := by decide) : PE X (.Call (.Name x p) [] [] pos) (rE X W G (.call i .nil)) := s_call0 C hr tk hg hdb
theorem c_bi {b : BI} {x : Str} {e : Expr} {es : List Expr} {p : Pos} {ms : MEs} (hm : X.mg x = none) (ha : PA X (e :: es) (rEs X W G ms)) (hc : X.calm = true := by rfl) (hx : biNm b = x := by rfl) (hg : Gl X x := by rfl)
    (he : starEach (e :: es) X.env = (false, eval e X.env) :: starEach es X.env := by rfl) (hpl : (backTo pos (starEach es X.env)).any (·.1) = false := by rfl) : PE X (.Call (.Name x p) (e :: es) [] pos) (rE X W G (.bi b ms)) := s_bi hc hx hg hm ha he hpl
theorem c_isi {t : TyN} {a : Expr} {x : Str} {p p1 : Pos} {ma : ME} (hm : X.mg "isinstance" = none) (hm1 : X.mg x = none) (ha : PE X a (rE X W G ma)) (hx : (tyNm t : Str) = x := by rfl) (hg : Gl X "isinstance" := by rfl) (hg1 : Gl X x := by rfl)
    (he : starEach [a, .Name x p1] X.env = (false, eval a X.env) :: starEach [.Name x p1] X.env := by rfl) (hpl : (backTo pos (starEach [.Name x p1] X.env)).any (·.1) = false := by rfl) (he1 : starEach [.Name x p1] X.env = (false, eval (.Name x p1) X.env) :: starEach [] X.env := by rfl) :
    PE X (.Call (.Name "isinstance" p) [a, .Name x p1] [] pos) (rE X W G (.isi t ma)) := s_isi hx hg hm hg1 hm1 ha he hpl he1
theorem c_fr {e : Expr} {m : MF} (h : PE X e (rF X W G m)) : PE X e (rE X W G (.fr m)) := s_fr h
theorem c_box {e : Expr} {m : MF} (h : PE X e (rF X W G m)) : PE X e (rE X W G (.box m)) := s_box h
theorem c_disp {es : List Expr} {ms : MEs} (h : PA X es (rEs X W G ms)) : PE X (.List es pos) (rF X W G (.disp ms)) := f_disp h
theorem c_toList {a : Expr} {p : Pos} {ma : ME} (hm : X.mg "list" = none) (ha : PE X a (rE X W G ma)) (hg : Gl X "list" := by rfl) (hs : starEach [a] X.env = (false, eval a X.env) :: starEach [] X.env := by rfl) : PE X (.Call (.Name "list" p) [a] [] pos) (rF X W G (.toList ma)) := f_toList hg hm ha hs
theorem c_cat {a b : Expr} {ma mb : ME} (ha : PE X a (rE X W G ma)) (hb : PE X b (rE X W G mb)) : PE X (.BinOp a .Add b pos) (rF X W G (.cat ma mb)) := f_cat ha hb
theorem c_rep {a b : Expr} {ma mb : ME} (ha : PE X a (rE X W G ma)) (hb : PE X b (rE X W G mb)) : PE X (.BinOp a .Mult b pos) (rF X W G (.rep ma mb)) := f_rep ha hb
theorem c_cut {a : Expr} {lo hi : Option Expr} {p2 : Pos} {ma : ME} {ml mh : MO} (ha : PE X a (rE X W G ma)) (hl : PO X lo (rO X W G ml)) (hh : PO X hi (rO X W G mh)) : PE X (.Subscript a (.Slice lo hi none p2) pos) (rF X W G (.cut ma ml mh)) := f_cut ha hl hh
theorem c_append {o a : Expr} {apos : Pos} {mo ma : ME} (ho : PE X o (rE X W G mo)) (ha : PE X a (rE X W G ma)) (hbase : attributeBase o "append" X.env (eval o X.env) = eval o X.env := by rfl)
    (hfew : ((backTo pos (starEach [a] X.env)).all (fun x => !x.1) && (backToKw pos (keywordEach [] X.env)).all (fun x => x.1.isSome)
      && decide ([a].length + ([] : List Keyword).length + (if ([] : List Keyword).isEmpty then 0 else 1) < 30)) = true := by rfl)
    (hline : (apos.endLine == pos.line) = true := by rfl) (hs : starEach [a] X.env = (false, eval a X.env) :: starEach [] X.env := by rfl) :
    PE X (.Call (.Attribute o "append" apos) [a] [] pos) (rE X W G (.append mo ma)) := s_append ho ha hbase hfew hline hs
theorem c_pop {o : Expr} {apos : Pos} {mo : ME} (ho : PE X o (rE X W G mo)) (hbase : attributeBase o "pop" X.env (eval o X.env) = eval o X.env := by rfl) (hline : (apos.endLine == pos.line) = true := by rfl) :
    PE X (.Call (.Attribute o "pop" apos) [] [] pos) (rE X W G (.pop mo)) := s_pop ho hbase hline
/-! ### tests -/
theorem d_val {a : Expr} {ma : ME} (ha : PE X a (rE X W G ma)) (he : ∀ whole, isTrue a X.env whole = (do let v ← whole; standAt a.pos; holding [v] (truthy v)) := by intro _; rfl) : PT X a (rB X W G (.val ma)) := t_val ha he
theorem bl_in {f : MEnv → MH → Res MV} {b : MV → Option Bool} {K : PySem.W.Frag} {mg : Str → Option Value} {as : Trk} {H : Hp} {σ : L2.St} {Q : Bool → Hp → Prop} {r : Res MV} (hf : ∀ a h', r = .ok a h' → ∃ z, a = .bl z)
    (p : Post K mg W REq as H σ Q (r.bind fun x h1 => match truth h1 x with | some b => .ok b h1 | none => .bad)) : Post K mg W (RVr K) as H σ (fun x H' => ∃ k, x = .bl k ∧ Q k H') r := by
  cases q : r with
  | bad => rw [q] at p; exact p
  | exc c f h => rw [q] at p; exact p
  | ok a h1 =>
    obtain ⟨z, rfl⟩ := hf a h1 q
    rw [q] at p
    exact fun as' H' v x S r => ⟨z, r, p as' H' z x S rfl⟩
theorem d_cmp {k : Nat} (hr : RoomG k X.A) {op : CO} {a b : Expr} {ma mb : ME} (ha : PE X a (rE X W G ma)) (hb : PE X b (rE X W G mb)) (hm : behindInMarks (coOf op) b = false := by first | exact nomark _ | rfl) :
    PT X (.Compare a [coOf op] [b] pos) (rB X W G (.val (.cmp op ma mb))) := by
  refine PT.imp (pt_cmpR (cmp_any (room65 hr.room) op) ha hb hm) fun σ H Q ⟨as, h, e, S, E, p⟩ => ?_
  have p' := bl_in (W := W) (f := fun e h => evE G (.cmp op ma mb) e h) (b := fun _ => none) (r := evE G (.cmp op ma mb) e h) (fun a h' q => ?_) p
  · have p1 : Post X.K X.mg W (RVr X.K) as H σ (fun x H' => ∃ k, x = .bl k ∧ Q k H') ((evE G ma e h).bind fun x h1 => (evE G mb e h1).bind fun y h2 => cmpV op x y h2) := p'
    refine ⟨as, h, e, S, E, p1.bind fun x h1 as1 H1 v x1 S1 r1 p1 => ⟨as1, h1, e, S1, E.ext x1, p1.bind fun y h2 as2 H2 w x2 S2 r2 p2 => ?_⟩⟩
    have ok : (∃ z, cmpV op x y h2 = .ok z h2) ∨ cmpV op x y h2 = .bad := (cmpV_ok op x y h2).imp (fun ⟨z, q⟩ => ⟨.bl z, q⟩) id
    obtain ⟨z, ez, q⟩ := p2.pure ok
    exact ⟨as2, h2, x, y, z, S2, RV.ext x2 x v r1, r2, ez, q⟩
  · have q : ((evE G ma e h).bind fun x h1 => (evE G mb e h1).bind fun y h2 => cmpV op x y h2) = .ok a h' := q
    cases q1 : evE G ma e h with
    | bad => rw [q1] at q; cases q
    | exc c f h => rw [q1] at q; cases q
    | ok x h1 =>
      rw [q1] at q
      cases q2 : evE G mb e h1 with
      | bad => simp only [Res.bind_ok, q2] at q; cases q
      | exc c f h => simp only [Res.bind_ok, q2] at q; cases q
      | ok y h2 =>
        simp only [Res.bind_ok, q2] at q
        rcases cmpV_ok op x y h2 with ⟨z, q3⟩ | q3
        · rw [q3] at q; cases q; exact ⟨z, rfl⟩
        · rw [q3] at q; cases q
theorem pc_T {op : CmpOp} {a b : Expr} {t : TE} (h : PC X op a b t) (h1 : behindInMarks op b = false) {ma : ME} (hi : ∀ σ H Q, rE X W G ma σ H Q → t σ H Q) (hf : ∀ e h a h', evE G ma e h = .ok a h' → ∃ z, a = .bl z) : PT X (.Compare a [op] [b] pos) (rB X W G (.val ma)) :=
  PT.imp (pt_cmp h h1) fun σ H Q ⟨as, h, e, S, E, p⟩ => hi _ _ _ ⟨as, h, e, S, E, bl_in (f := fun e h => evE G ma e h) (b := fun _ => none) (hf e h) p⟩
theorem isN_bl {ma : ME} : ∀ e h a h', evE G (.isN ma) e h = .ok a h' → ∃ z, a = .bl z := fun e h a h' q => by
  have q : ((evE G ma e h).bind fun x h1 => match x with | .atm _ => .bad | .non => .ok (.bl true) h1 | _ => .ok (.bl false) h1) = .ok a h' := q
  cases q1 : evE G ma e h with
  | bad => rw [q1] at q; cases q
  | exc c f h => rw [q1] at q; cases q
  | ok x h1 => rw [q1] at q; cases x <;> cases q <;> exact ⟨_, rfl⟩
theorem notN_bl {ma : ME} : ∀ e h a h', evE G (.notN ma) e h = .ok a h' → ∃ z, a = .bl z := fun e h a h' q => by
  have q : ((evE G ma e h).bind fun x h1 => match x with | .atm _ => .bad | .non => .ok (.bl false) h1 | _ => .ok (.bl true) h1) = .ok a h' := q
  cases q1 : evE G ma e h with
  | bad => rw [q1] at q; cases q
  | exc c f h => rw [q1] at q; cases q
  | ok x h1 => rw [q1] at q; cases x <;> cases q <;> exact ⟨_, rfl⟩
theorem isN_in {ma : ME} {ta : TE} (ht : ∀ σ H Q, rE X W G ma σ H Q → ta σ H Q) : ∀ σ H Q, rE X W G (.isN ma) σ H Q → tIsN ta σ H Q := fun σ H Q ⟨as, h, e, S, E, p⟩ => by
  have p : Post X.K X.mg W (RVr X.K) as H σ Q ((evE G ma e h).bind fun x h1 => match x with | .atm _ => .bad | .non => .ok (.bl true) h1 | _ => .ok (.bl false) h1) := p
  refine ht _ _ _ ⟨as, h, e, S, E, p.bind fun x h1 as1 H1 v x1 S1 r1 p1 => ?_⟩
  cases x with
  | atm w => exact False.elim p1
  | _ =>
    show Q (.bl (decide (v = .non))) H1
    rw [non_iff r1 (fun w z => nomatch z)]
    exact Post.of_ok S1 rfl p1
theorem notN_in {ma : ME} {ta : TE} (ht : ∀ σ H Q, rE X W G ma σ H Q → ta σ H Q) : ∀ σ H Q, rE X W G (.notN ma) σ H Q → tNotN ta σ H Q := fun σ H Q ⟨as, h, e, S, E, p⟩ => by
  have p : Post X.K X.mg W (RVr X.K) as H σ Q ((evE G ma e h).bind fun x h1 => match x with | .atm _ => .bad | .non => .ok (.bl false) h1 | _ => .ok (.bl true) h1) := p
  refine ht _ _ _ ⟨as, h, e, S, E, p.bind fun x h1 as1 H1 v x1 S1 r1 p1 => ?_⟩
  cases x with
  | atm w => exact False.elim p1
  | _ =>
    show Q (.bl (!decide (v = .non))) H1
    rw [non_iff r1 (fun w z => nomatch z)]
    exact Post.of_ok S1 rfl p1
theorem d_isN {a : Expr} {p2 : Pos} {j : Nat} {ma : ME} (ha : PE X a (rE X W G ma)) : PT X (.Compare a [.Is] [.Constant .none j p2] pos) (rB X W G (.val (.isN ma))) :=
  pc_T (pc_isN ha) (nomark _) (isN_in fun _ _ _ z => z) isN_bl
theorem d_notN {a : Expr} {p2 : Pos} {j : Nat} {ma : ME} (ha : PE X a (rE X W G ma)) : PT X (.Compare a [.IsNot] [.Constant .none j p2] pos) (rB X W G (.val (.notN ma))) :=
  pc_T (pc_notN ha) (nomark _) (notN_in fun _ _ _ z => z) notN_bl
theorem isB_bl {k : Bool} {ma : ME} : ∀ e h a h', evE G (.isB k ma) e h = .ok a h' → ∃ z, a = .bl z := fun e h a h' q => by
  have q : ((evE G ma e h).bind fun x h1 => match x with | .bl b => .ok (.bl (b == k)) h1 | _ => .bad) = .ok a h' := q
  cases q1 : evE G ma e h with
  | bad => rw [q1] at q; cases q
  | exc c f h => rw [q1] at q; cases q
  | ok x h1 => rw [q1] at q; cases x <;> cases q <;> exact ⟨_, rfl⟩
theorem notB_bl {k : Bool} {ma : ME} : ∀ e h a h', evE G (.notB k ma) e h = .ok a h' → ∃ z, a = .bl z := fun e h a h' q => by
  have q : ((evE G ma e h).bind fun x h1 => match x with | .bl b => .ok (.bl (!(b == k))) h1 | _ => .bad) = .ok a h' := q
  cases q1 : evE G ma e h with
  | bad => rw [q1] at q; cases q
  | exc c f h => rw [q1] at q; cases q
  | ok x h1 => rw [q1] at q; cases x <;> cases q <;> exact ⟨_, rfl⟩
theorem d_isB {k : Bool} {a : Expr} {p2 : Pos} {j : Nat} {ma : ME} (ha : PE X a (rE X W G ma)) : PT X (.Compare a [.Is] [.Constant (.bool k) j p2] pos) (rB X W G (.val (.isB k ma))) := by
  refine PT.imp (pt_cmpR op_isBl ha pe_bl (nomark _)) fun σ H Q ⟨as, h, e, S, E, p⟩ => ?_
  have p' := bl_in (W := W) (f := fun e h => evE G (.isB k ma) e h) (b := fun _ => none) (r := evE G (.isB k ma) e h) (isB_bl e h) p
  have p1 : Post X.K X.mg W (RVr X.K) as H σ (fun x H' => ∃ k, x = .bl k ∧ Q k H') ((evE G ma e h).bind fun x h1 => match x with | .bl b => .ok (.bl (b == k)) h1 | _ => .bad) := p'
  refine ⟨as, h, e, S, E, p1.bind fun x h1 as1 H1 v x1 S1 r1 p1 => ?_⟩
  cases x with
  | bl b =>
    refine ⟨b, k, r1, rfl, ?_⟩
    have e : decide (b = k) = (b == k) := by cases b <;> cases k <;> rfl
    rw [e]
    exact Post.of_ok S1 rfl p1
  | _ => exact False.elim p1
theorem d_notB {k : Bool} {a : Expr} {p2 : Pos} {j : Nat} {ma : ME} (ha : PE X a (rE X W G ma)) : PT X (.Compare a [.IsNot] [.Constant (.bool k) j p2] pos) (rB X W G (.val (.notB k ma))) := by
  refine PT.imp (pt_cmpR op_notBl ha pe_bl (nomark _)) fun σ H Q ⟨as, h, e, S, E, p⟩ => ?_
  have p' := bl_in (W := W) (f := fun e h => evE G (.notB k ma) e h) (b := fun _ => none) (r := evE G (.notB k ma) e h) (notB_bl e h) p
  have p1 : Post X.K X.mg W (RVr X.K) as H σ (fun x H' => ∃ k, x = .bl k ∧ Q k H') ((evE G ma e h).bind fun x h1 => match x with | .bl b => .ok (.bl (!(b == k))) h1 | _ => .bad) := p'
  refine ⟨as, h, e, S, E, p1.bind fun x h1 as1 H1 v x1 S1 r1 p1 => ?_⟩
  cases x with
  | bl b =>
    refine ⟨b, k, r1, rfl, ?_⟩
    have e : (!decide (b = k)) = (!(b == k)) := by cases b <;> cases k <;> rfl
    rw [e]
    exact Post.of_ok S1 rfl p1
  | _ => exact False.elim p1
theorem d_not {a : Expr} {ma : MB} (ha : PT X a (rB X W G ma)) : PT X (.UnaryOp .Not a pos) (rB X W G (.not_ ma)) := t_not ha
theorem w_and1 {a : Expr} {ma : MB} (ha : PT X a (rB X W G ma)) : PW X (.BoolOp .And [a] pos) (rB X W G (.all (.cons ma .nil))) := t_and1 ha
theorem w_or1 {a : Expr} {ma : MB} (ha : PT X a (rB X W G ma)) : PW X (.BoolOp .Or [a] pos) (rB X W G (.any (.cons ma .nil))) := t_or1 ha
theorem w_and {a b : Expr} {rest : List Expr} {ma : MB} {ms : MBs} (ha : PT X a (rB X W G ma)) (hb : PW X (.BoolOp .And (b :: rest) pos) (rB X W G (.all ms))) : PW X (.BoolOp .And (a :: b :: rest) pos) (rB X W G (.all (.cons ma ms))) := t_and ha hb
theorem w_or {a b : Expr} {rest : List Expr} {ma : MB} {ms : MBs} (ha : PT X a (rB X W G ma)) (hb : PW X (.BoolOp .Or (b :: rest) pos) (rB X W G (.any ms))) : PW X (.BoolOp .Or (a :: b :: rest) pos) (rB X W G (.any (.cons ma ms))) := t_or ha hb
end
section
variable {X : Cx} {W : WX} {G : Callee} {pos : Pos}
/-! ### iterables, targets, comprehensions -/
abbrev rI (X : Cx) (W : WX) (G : Callee) (m : MI) : TI := rdI X W fun e h => evI G m e h
abbrev rT (K : PySem.W.Frag) (own : List Nat) (G : Callee) (m : MT) : TG := rdT K own fun v e h => evT G m v e h
abbrev rTs (K : PySem.W.Frag) (own : List Nat) (G : Callee) (m : MTs) : TGs := rdTs K own fun v e h => evTs G m v e h
theorem takesF {X : Cx} : Takes X wF := takes0
theorem k_seq {tg a : Expr} {ma : ME} (ha : PE X a (rE X W G ma)) : PI X tg a (rI X W G (.seq ma)) := i_seq ha
theorem k_range1 {tg a : Expr} {p : Pos} {ma : ME} (hm : X.mg "range" = none) (ha : PE X a (rE X W G ma)) (hg : Gl X "range" := by rfl) (hs : starEach [a] X.env = [(false, eval a X.env)] := by rfl) : PI X tg (.Call (.Name "range" p) [a] [] pos) (rI X W G (.range1 ma)) := i_range1 hg hm ha hs
theorem k_range2 {tg a b : Expr} {p : Pos} {ma mb : ME} (hm : X.mg "range" = none) (ha : PE X a (rE X W G ma)) (hb : PE X b (rE X W G mb)) (hg : Gl X "range" := by rfl) (hs : starEach [a, b] X.env = [(false, eval a X.env), (false, eval b X.env)] := by rfl) (hs2 : starEach [b] X.env = [(false, eval b X.env)] := by rfl) :
    PI X tg (.Call (.Name "range" p) [a, b] [] pos) (rI X W G (.range2 ma mb)) := i_range2 hg hm ha hb hs hs2
theorem k_enum {a : Expr} {p tpos : Pos} {elts : List Expr} {kk : Nat} {ma : ME} (hm : X.mg "enumerate" = none) (ha : PE X a (rE X W G ma)) (hg : Gl X "enumerate" := by rfl) (hs : starEach [a] X.env = [(false, eval a X.env)] := by rfl) :
    PI X (.Tuple elts kk tpos) (.Call (.Name "enumerate" p) [a] [] pos) (rI X W G (.enum ma)) := i_enum hg hm ha hs
theorem k_zip2 {a b : Expr} {p tpos : Pos} {elts : List Expr} {kk : Nat} {ma mb : ME} (hm : X.mg "zip" = none) (ha : PE X a (rE X W G ma)) (hb : PE X b (rE X W G mb)) (hg : Gl X "zip" := by rfl)
    (hs : starEach [a, b] X.env = (false, eval a X.env) :: starEach [b] X.env := by rfl) (hs2 : starEach [b] X.env = [(false, eval b X.env)] := by rfl) (hpl : (backTo pos (starEach [b] X.env)).any (·.1) = false := by rfl) :
    PI X (.Tuple elts kk tpos) (.Call (.Name "zip" p) [a, b] [] pos) (rI X W G (.zip2 ma mb)) := i_zip2 hg hm ha hb hs hs2 hpl
theorem k_zip3 {a b c : Expr} {p tpos : Pos} {elts : List Expr} {kk : Nat} {ma mb mc : ME} (hm : X.mg "zip" = none) (ha : PE X a (rE X W G ma)) (hb : PE X b (rE X W G mb)) (hc : PE X c (rE X W G mc)) (hg : Gl X "zip" := by rfl)
    (hs : starEach [a, b, c] X.env = (false, eval a X.env) :: starEach [b, c] X.env := by rfl) (hs2 : starEach [b, c] X.env = (false, eval b X.env) :: starEach [c] X.env := by rfl) (hs3 : starEach [c] X.env = [(false, eval c X.env)] := by rfl) (hpl : (backTo pos (starEach [b, c] X.env)).any (·.1) = false := by rfl) :
    PI X (.Tuple elts kk tpos) (.Call (.Name "zip" p) [a, b, c] [] pos) (rI X W G (.zip3 ma mb mc)) := i_zip3 hg hm ha hb hc hs hs2 hs3 hpl
theorem l_nm (i : Nat) {own : List Nat} {x : Str} (hN : X.N.Nodup) (hi : X.N[i]? = some x := by rfl) (hx : Loc X.env.scope x := by first | exact Or.inl rfl | exact Or.inr rfl) (hf : X.fn x = true ∨ X.env.scope.names.lookup x = some .local := by first | exact .inl rfl | exact .inr rfl) (ho : i ∈ own := by decide) :
    PG X (.Name x pos) (rT X.K own G (.nm i)) := g_nm hN hi hx hf ho
theorem l_nil {own : List Nat} : PGs X [] (rTs X.K own G .nil) := by
  refine PGs.imp (gs_nil (own := own)) fun v σ H Q ⟨as, h, e, mv, S, E, r, p⟩ => ⟨as, h, e, mv, S, E, r, ?_⟩
  cases mv with
  | nil => exact p
  | cons a b => exact p
theorem l_cons {own : List Nat} {e : Expr} {es : List Expr} {m : MT} {ms : MTs} (h1 : PG X e (rT X.K own G m)) (h2 : PGs X es (rTs X.K own G ms)) (hs : (assignEach (e :: es) X.env).map (·.2) = assign e X.env :: (assignEach es X.env).map (·.2) := by rfl) :
    PGs X (e :: es) (rTs X.K own G (.cons m ms)) := by
  refine PGs.imp (gs_cons h1 h2 hs) fun v σ H Q ⟨as, h, e, mv, S, E, r, p⟩ => ⟨as, h, e, mv, S, E, r, ?_⟩
  cases mv with
  | nil => exact p
  | cons a b => exact p
def MTs.len : MTs → Nat
  | .nil => 0
  | .cons _ r => r.len + 1
theorem evTs_len : ∀ (ts : MTs) (vs : List MV) (e : MEnv) (h : MH), vs.length ≠ ts.len → ∀ a h', evTs G ts vs e h ≠ .ok a h'
  | .nil, [], e, h, hl, a, h' => absurd rfl hl
  | .nil, _ :: _, e, h, hl, a, h' => fun z => nomatch z
  | .cons _ _, [], e, h, hl, a, h' => fun z => nomatch z
  | .cons t ts, v :: vs, e, h, hl, a, h' => fun z => by
    have z : ((evT G t v e h).bind fun e1 h1 => evTs G ts vs e1 h1) = .ok a h' := z
    cases q : evT G t v e h with
    | bad => rw [q] at z; cases z
    | exc c f h => rw [q] at z; cases z
    | ok e1 h1 =>
      rw [q] at z
      exact evTs_len ts vs e1 h1 (fun y => hl (by show vs.length + 1 = ts.len + 1; rw [y])) a h' z
theorem l_tup {own : List Nat} {es : List Expr} {k : Nat} {ms : MTs} (h : PGs X es (rTs X.K own G ms)) (hc : X.calm = true := by rfl) (hn : (assignEach es X.env).length = ms.len := by rfl) (hst : (assignEach es X.env).findIdx? (·.1) = none := by rfl) :
    PG X (.Tuple es k pos) (rT X.K own G (.tup ms)) := by
  refine PG.imp (g_tup hc h hn hst (evTs_len ms)) fun v σ H Q ⟨as, h, e, mv, S, E, r, p⟩ => ⟨as, h, e, mv, S, E, r, ?_⟩
  cases mv <;> exact p
theorem l_sub {own : List Nat} {o i : Expr} {mo mi : ME} (W : WX) (ho : PE X o (rE X W G mo)) (hi : PE X i (rE X W G mi)) (ha : ∀ v, assign (.Subscript o i pos) X.env v = (do
      let ov ← holding [v] (eval o X.env)
      let iv ← holding [v, ov] (eval i X.env)
      standAt pos
      holding [v, ov, iv] (setItem ov iv v)
      release [v, ov, iv] []) := by intro _; rfl) : PG X (.Subscript o i pos) (rT X.K own G (.ix mo mi)) := g_sub ho hi ha
theorem q_nil : PTs X [] (rB X W G .tt) := ⟨fun pins s σ H Q I ⟨as, h, e, S, E, p⟩ => pts_nil.run pins s σ H Q I (p as H true .refl S rfl)⟩
theorem q_one {c : Expr} {m : MB} (h : PT X c (rB X W G m)) : PTs X [c] (rB X W G m) := pts_one h
theorem c_comp {elt tg iter : Expr} {ifs : List Expr} {scope : Scope} (ow : List (Str × Nat)) {own : List Nat} {mi : MI} {mt : MT} {mc : MB} {me : ME} (hN : X.N.Nodup) (hi : PI X tg iter (rI X W G mi))
    (hg : ∀ (s : Shared) (H : Hp) (C : Addr) (cl : List (Str × Addr)) (fp : List Addr), PG (X.blk s H scope (compEnvC scope cl C X.env) fp) tg (rT X.K own G mt))
    (ht : ∀ (s : Shared) (H : Hp) (C : Addr) (cl : List (Str × Addr)) (fp : List Addr), PTs (X.blk s H scope (compEnvC scope cl C X.env) fp) ifs (rB (X.blk s H scope (compEnvC scope cl C X.env) fp) wF G mc))
    (he : ∀ (s : Shared) (H : Hp) (C : Addr) (cl : List (Str × Addr)) (fp : List Addr), PE (X.blk s H scope (compEnvC scope cl C X.env) fp) elt (rE (X.blk s H scope (compEnvC scope cl C X.env) fp) wF G me))
    (ok : blkC X.N X.env.scope scope ow = true := by kernel_rfl) (ho : ow.map (·.2) = own := by rfl) (hc : X.calm = true := by rfl) (hs : ∀ x, foldedSetIterable iter X.env x = pure x := by intro _; rfl) :
    PE X (.ListComp elt [⟨tg, iter, ifs, 0⟩] scope pos) (rF X W G (.comp own mt mi mc me)) := f_comp hc hN ho hi (blkOk_by ok) hg ht he hs
theorem c_comp2 {elt tg iter tg1 iter1 : Expr} {ifs ifs1 : List Expr} {scope : Scope} (ow : List (Str × Nat)) {own own1 : List Nat} {mi mi1 : MI} {mt mt1 : MT} {mc mc1 : MB} {me : ME} (hN : X.N.Nodup) (hi : PI X tg iter (rI X W G mi))
    (hg : ∀ (s : Shared) (H : Hp) (C : Addr) (cl : List (Str × Addr)) (fp : List Addr), PG (X.blk s H scope (compEnvC scope cl C X.env) fp) tg (rT X.K own G mt))
    (ht : ∀ (s : Shared) (H : Hp) (C : Addr) (cl : List (Str × Addr)) (fp : List Addr), PTs (X.blk s H scope (compEnvC scope cl C X.env) fp) ifs (rB (X.blk s H scope (compEnvC scope cl C X.env) fp) wF G mc))
    (hi1 : ∀ (s : Shared) (H : Hp) (C : Addr) (cl : List (Str × Addr)) (fp : List Addr), PI (X.blk s H scope (compEnvC scope cl C X.env) fp) tg1 iter1 (rI (X.blk s H scope (compEnvC scope cl C X.env) fp) wF G mi1))
    (hg1 : ∀ (s : Shared) (H : Hp) (C : Addr) (cl : List (Str × Addr)) (fp : List Addr), PG (X.blk s H scope (compEnvC scope cl C X.env) fp) tg1 (rT X.K own1 G mt1))
    (ht1 : ∀ (s : Shared) (H : Hp) (C : Addr) (cl : List (Str × Addr)) (fp : List Addr), PTs (X.blk s H scope (compEnvC scope cl C X.env) fp) ifs1 (rB (X.blk s H scope (compEnvC scope cl C X.env) fp) wF G mc1))
    (he : ∀ (s : Shared) (H : Hp) (C : Addr) (cl : List (Str × Addr)) (fp : List Addr), PE (X.blk s H scope (compEnvC scope cl C X.env) fp) elt (rE (X.blk s H scope (compEnvC scope cl C X.env) fp) wF G me))
    (ok : blkC X.N X.env.scope scope ow = true := by kernel_rfl) (ho : ow.map (·.2) = own := by rfl) (hv : ∀ i ∈ own1, i ∈ ow.map (·.2) := by decide) (hc : X.calm = true := by rfl) (hs : ∀ x, foldedSetIterable iter X.env x = pure x := by intro _; rfl) (hs1 : ∀ env x, foldedSetIterable iter1 env x = pure x := by intro _ _; rfl) :
    PE X (.ListComp elt [⟨tg, iter, ifs, 0⟩, ⟨tg1, iter1, ifs1, 0⟩] scope pos) (rF X W G (.comp2 own own1 mt mi mc mt1 mi1 mc1 me)) := f_comp2 hc hN ho hi (blkOk_by ok) hv hg ht hi1 hg1 ht1 he hs hs1
end
section
variable {X : Cx} {E : XK} {G : Callee} {L : Option Nat} {pos : Pos}
/-! ### statements -/
theorem b_nil : PSs X [] (rSs X E L G []) := S_nil
theorem b_cons {s : Stmt} {r : List Stmt} {m : MS} {ms : List MS} (h1 : PS X s (rS X E L G m)) (h2 : PSs X r (rSs X E L G ms)) : PSs X (s :: r) (rSs X E L G (m :: ms)) := by
  refine PSs.imp (S_cons h1 h2) fun D σ H ⟨as, h, e, S, En, p⟩ => ⟨as, h, e, S, En, ?_⟩
  have p : PostS X.K X.mg E as H D ((evS L G m e h).bind fun fe h1 => match fe.1 with | .nx => evSs L G ms fe.2 h1 | _ => .ok fe h1) := p
  dsimp only
  revert p
  cases evS L G m e h with
  | bad => exact fun p => p
  | exc c f h => exact fun p => p
  | ok fe h1 =>
    obtain ⟨fl, e1⟩ := fe
    cases fl <;> exact fun p => p
theorem b_expr {e : Expr} {m : ME} (he : PE X e (rE X (wOf E) G m)) (hs : swapsWith e none pos.line X.env = pure false := by rfl) : PS X (.Expr e pos) (rS X E L G (.expr m)) := S_expr he hs
theorem b_ret {e : Expr} {m : ME} (he : PE X e (rE X (wOf E) G m)) : PS X (.Return (some e) pos) (rS X E L G (.ret m)) := S_ret he
theorem b_retN : PS X (.Return none pos) (rS X E L G .retN) := S_retN
theorem b_pass : PS X (.Pass pos) (rS X E L G .pass) := S_pass
theorem b_brk : PS X (.Break pos) (rS X E L G .brk) := S_brk
theorem b_cont : PS X (.Continue pos) (rS X E L G .cont) := S_cont
theorem b_if {c : Expr} {a b : List Stmt} {mc : MB} {ma mb : List MS} (hc : PT X c (rB X (wOf E) G mc)) (ha : PSs X a (rSs X E L G ma)) (hb : PSs X b (rSs X E L G mb)) : PS X (.If c a b pos) (rS X E L G (.ifS mc ma mb)) := S_if hc ha hb
theorem b_whl {c : Expr} {a : List Stmt} {mc : MB} {ma : List MS} (hc : PT X c (rB X (wOf E) G mc)) (ha : PSs X a (rSs X E L G ma)) (hp : PassesOwn (model X.prog X.w) X.A X.env X.xe := by exact PassesOwn.leaving) : PS X (.While c a [] pos) (rS X E L G (.whl mc ma)) := S_whl hp hc ha
theorem b_for {tg iter : Expr} {body : List Stmt} (own : List Nat) {mi : MI} {mt : MT} {mb : List MS} (hi : PI X tg iter (rI X (wOf E) G mi)) (hg : PG X tg (rT X.K own G mt)) (hb : PSs X body (rSs X E L G mb))
    (hp : PassesOwn (model X.prog X.w) X.A X.env X.xe := by exact PassesOwn.leaving) (hc : X.calm = true := by rfl) (hs : ∀ x, foldedSetIterable iter X.env x = pure x := by intro _; rfl) : PS X (.For tg iter body [] pos) (rS X E L G (.forS mt mi mb)) := S_for hp hc hi hg hb hs
theorem b_set (i : Nat) {x : Str} {e : Expr} {p1 : Pos} {m : ME} (hN : X.N.Nodup) (he : PE X e (rE X (wOf E) G m)) (hi : X.N[i]? = some x := by rfl) (hx : Loc X.env.scope x := by first | exact Or.inl rfl | exact Or.inr rfl) (hs : swapsWith e (some (.Name x p1)) pos.line X.env = pure false := by rfl)
    (hf : X.fn x = true ∨ X.env.scope.names.lookup x = some .local := by first | exact .inl rfl | exact .inr rfl) : PS X (.Assign [.Name x p1] e pos) (rS X E L G (.asg (.nm i) m)) := S_set he hN hi hx hs hf
theorem b_asg {tg e : Expr} (own : List Nat) {mt : MT} {m : ME} (he : PE X e (rE X (wOf E) G m)) (hg : PG X tg (rT X.K own G mt)) (hs : swapsWithSole [tg] e pos.line X.env = pure false := by rfl) (hw : swappedStores [tg] e X.env = pure none := by rfl)
    (h1 : (assignEach [tg] X.env).map (·.2) = [assign tg X.env] := by rfl) : PS X (.Assign [tg] e pos) (rS X E L G (.asg mt m)) := S_asg he hg hs hw h1
theorem b_par (i j : Nat) {x y : Str} {a b : Expr} {px py pt : Pos} {kt k2 pt2} {ms : MEs} (hN : X.N.Nodup) (ha : PA X [a, b] (rEs X (wOf E) G ms)) (hc : X.calm = true := by rfl) (hi : X.N[i]? = some x := by rfl) (hj : X.N[j]? = some y := by rfl) (hij : i ≠ j := by decide)
    (hx : X.env.scope.names.lookup x = some .local := by rfl) (hy : X.env.scope.names.lookup y = some .local := by rfl)
    (hw : swappedStores [.Tuple [.Name x px, .Name y py] kt pt] (.Tuple [a, b] k2 pt2) X.env = pure (some [x, y]) := by rfl)
    (hs : swapsWithSole [.Tuple [.Name x px, .Name y py] kt pt] (.Tuple [a, b] k2 pt2) pos.line X.env = pure false := by rfl) :
    PS X (.Assign [.Tuple [.Name x px, .Name y py] kt pt] (.Tuple [a, b] k2 pt2) pos) (rS X E L G (.asg (.tup (.cons (.nm i) (.cons (.nm j) .nil))) (.tup ms))) := S_par ha hc hN hi hj hij hx hy hw hs
theorem b_par3 (i j l : Nat) {x y z : Str} {a b c : Expr} {px py pz pt : Pos} {kt k2 pt2} {ms : MEs} (hN : X.N.Nodup) (ha : PA X [a, b, c] (rEs X (wOf E) G ms)) (hc : X.calm = true := by rfl) (hi : X.N[i]? = some x := by rfl) (hj : X.N[j]? = some y := by rfl) (hl : X.N[l]? = some z := by rfl) (hij : i ≠ j := by decide) (hil : i ≠ l := by decide) (hjl : j ≠ l := by decide)
    (hx : X.env.scope.names.lookup x = some .local := by rfl) (hy : X.env.scope.names.lookup y = some .local := by rfl) (hz : X.env.scope.names.lookup z = some .local := by rfl)
    (hw : swappedStores [.Tuple [.Name x px, .Name y py, .Name z pz] kt pt] (.Tuple [a, b, c] k2 pt2) X.env = pure (some [x, y, z]) := by rfl)
    (hs : swapsWithSole [.Tuple [.Name x px, .Name y py, .Name z pz] kt pt] (.Tuple [a, b, c] k2 pt2) pos.line X.env = pure false := by rfl) :
    PS X (.Assign [.Tuple [.Name x px, .Name y py, .Name z pz] kt pt] (.Tuple [a, b, c] k2 pt2) pos) (rS X E L G (.asg (.tup (.cons (.nm i) (.cons (.nm j) (.cons (.nm l) .nil)))) (.tup ms))) := S_par3 ha hc hN hi hj hl hij hil hjl hx hy hz hw hs
theorem b_augA (i : Nat) {x : Str} {e : Expr} {p1 : Pos} {m : ME} (hN : X.N.Nodup) (he : PE X e (rE X (wOf E) G m)) (hi : X.N[i]? = some x := by rfl) (hx : Loc X.env.scope x := by first | exact Or.inl rfl | exact Or.inr rfl) (hf : X.fn x = true ∨ X.env.scope.names.lookup x = some .local := by first | exact .inl rfl | exact .inr rfl) :
    PS X (.AugAssign (.Name x p1) .Add e pos) (rS X E L G (.aug i .add m)) := S_aug he ip_addM hN hi hx hf
theorem b_augS (i : Nat) {x : Str} {e : Expr} {p1 : Pos} {m : ME} (hN : X.N.Nodup) (he : PE X e (rE X (wOf E) G m)) (hi : X.N[i]? = some x := by rfl) (hx : Loc X.env.scope x := by first | exact Or.inl rfl | exact Or.inr rfl) (hf : X.fn x = true ∨ X.env.scope.names.lookup x = some .local := by first | exact .inl rfl | exact .inr rfl) :
    PS X (.AugAssign (.Name x p1) .Sub e pos) (rS X E L G (.aug i .sub m)) := S_aug he ip_subM hN hi hx hf
theorem fr_in {f : MEnv → MH → Res (List MV)} {W : WX} {σ : L2.St} {H : Hp} {Q : VK} (q : rdE X W (fun e h => (f e h).bind fun xs h1 => .ok (.lst xs) h1) σ H Q) : rdF X W f σ H Q := by
  obtain ⟨as, h, e, S, E, p⟩ := q
  refine ⟨as, h, e, S, E, p.bind fun xs h1 as1 H1 v x1 S1 r1 p1 => ?_⟩
  obtain ⟨q, vs, rfl, rv, _, hq, hn⟩ := r1
  exact Post.of_ok S1 (show RV X.K as1 H1 (.lst xs) (.ref q) from ⟨q, vs, rfl, hq, hn, rv⟩) p1
theorem box_in {f : MEnv → MH → Res (List MV)} {W : WX} {σ : L2.St} {H : Hp} {Q : VK} (q : rdE X W (fun e h => (f e h).bind fun xs h1 => okIf (fltL xs) (.ref h1.length) (h1 ++ [.lst xs])) σ H Q) : rdF X W f σ H Q := by
  obtain ⟨as, h, e, S, E, p⟩ := q
  refine ⟨as, h, e, S, E, ?_⟩
  have p' : Post X.K X.mg W (RVr X.K) as H σ Q ((f e h).bind fun xs h1 => okIf (fltL xs) (.ref h1.length) (h1 ++ [.lst xs])) := p
  clear p
  cases q : f e h with
  | ok xs h1 =>
    rw [q] at p'
    obtain ⟨hl, p1⟩ := Post.okIf (show Post X.K X.mg W (RVr X.K) as H σ Q (okIf (fltL xs) (.ref h1.length) (h1 ++ [.lst xs])) from p')
    intro as1 H1 v x1 S1 r1
    obtain ⟨q, vs, rfl, rv, h0, hq, hn⟩ := r1
    exact p1 (as1.push q) H1 (.ref q) (Ext.box x1 h0) (S1.box hq hn rv hl) (RV.boxNew S1)
  | exc c f h1 => rw [q] at p'; exact p'
  | bad => rw [q] at p'; exact p'
/-- name = [..] on one line -/
theorem b_setF (i : Nat) {y : Str} {py : Pos} {elt tg iter : Expr} {ifs : List Expr} {scope : Scope} (ow : List (Str × Nat)) {own : List Nat} {mi : MI} {mt : MT} {mc : MB} {me : ME} {p2 : Pos} (hN : X.N.Nodup) (hi : PI X tg iter (rI X (wOf E) G mi))
    (hg : ∀ (s : Shared) (H : Hp) (C : Addr) (cl : List (Str × Addr)) (fp : List Addr), PG (X.blk s H scope (compEnvC scope cl C X.env) fp) tg (rT X.K own G mt))
    (ht : ∀ (s : Shared) (H : Hp) (C : Addr) (cl : List (Str × Addr)) (fp : List Addr), PTs (X.blk s H scope (compEnvC scope cl C X.env) fp) ifs (rB (X.blk s H scope (compEnvC scope cl C X.env) fp) wF G mc))
    (he : ∀ (s : Shared) (H : Hp) (C : Addr) (cl : List (Str × Addr)) (fp : List Addr), PE (X.blk s H scope (compEnvC scope cl C X.env) fp) elt (rE (X.blk s H scope (compEnvC scope cl C X.env) fp) wF G me))
    (ok : blkC X.N X.env.scope scope ow = true := by kernel_rfl) (ho : ow.map (·.2) = own := by rfl) (hc : X.calm = true := by rfl) (hy : X.N[i]? = some y := by rfl) (hyl : X.env.scope.names.lookup y = some .local := by rfl)
    (hsw : swapsWith (.ListComp elt [⟨tg, iter, ifs, 0⟩] scope pos) (some (.Name y py)) p2.line X.env = pure true := by rfl) (hs : ∀ x, foldedSetIterable iter X.env x = pure x := by intro _; rfl) :
    PS X (.Assign [.Name y py] (.ListComp elt [⟨tg, iter, ifs, 0⟩] scope pos) p2) (rS X E L G (.asg (.nm i) (.fr (.comp own mt mi mc me)))) :=
  PS.imp (ps_setLc (tt := rd X.K X.mg wF REq fun e h => evB G mc e h) (te := rd X.K X.mg wF (RVr X.K) fun e h => evE G me e h) hc hN hy hyl hsw hi (blkOk_by ok) hg ht he hs) fun D σ H q => asg_in (own := [i]) (ft := fun v e h => .ok (e.set i (some v)) h) (fun _ _ _ _ z => nm_in z) (fun σ H Q z => comp_in ho (fr_in z)) q
theorem b_setB (i : Nat) {y : Str} {py : Pos} {elt tg iter : Expr} {ifs : List Expr} {scope : Scope} (ow : List (Str × Nat)) {own : List Nat} {mi : MI} {mt : MT} {mc : MB} {me : ME} {p2 : Pos} (hN : X.N.Nodup) (hi : PI X tg iter (rI X (wOf E) G mi))
    (hg : ∀ (s : Shared) (H : Hp) (C : Addr) (cl : List (Str × Addr)) (fp : List Addr), PG (X.blk s H scope (compEnvC scope cl C X.env) fp) tg (rT X.K own G mt))
    (ht : ∀ (s : Shared) (H : Hp) (C : Addr) (cl : List (Str × Addr)) (fp : List Addr), PTs (X.blk s H scope (compEnvC scope cl C X.env) fp) ifs (rB (X.blk s H scope (compEnvC scope cl C X.env) fp) wF G mc))
    (he : ∀ (s : Shared) (H : Hp) (C : Addr) (cl : List (Str × Addr)) (fp : List Addr), PE (X.blk s H scope (compEnvC scope cl C X.env) fp) elt (rE (X.blk s H scope (compEnvC scope cl C X.env) fp) wF G me))
    (ok : blkC X.N X.env.scope scope ow = true := by kernel_rfl) (ho : ow.map (·.2) = own := by rfl) (hc : X.calm = true := by rfl) (hy : X.N[i]? = some y := by rfl) (hyl : X.env.scope.names.lookup y = some .local := by rfl)
    (hsw : swapsWith (.ListComp elt [⟨tg, iter, ifs, 0⟩] scope pos) (some (.Name y py)) p2.line X.env = pure true := by rfl) (hs : ∀ x, foldedSetIterable iter X.env x = pure x := by intro _; rfl) :
    PS X (.Assign [.Name y py] (.ListComp elt [⟨tg, iter, ifs, 0⟩] scope pos) p2) (rS X E L G (.asg (.nm i) (.box (.comp own mt mi mc me)))) :=
  PS.imp (ps_setLc (tt := rd X.K X.mg wF REq fun e h => evB G mc e h) (te := rd X.K X.mg wF (RVr X.K) fun e h => evE G me e h) hc hN hy hyl hsw hi (blkOk_by ok) hg ht he hs) fun D σ H q => asg_in (own := [i]) (ft := fun v e h => .ok (e.set i (some v)) h) (fun _ _ _ _ z => nm_in z) (fun σ H Q z => comp_in ho (box_in z)) q
/-- an error class of the module -/
def ErrC (K : PySem.W.Frag) (mg : Str → Option Value) (x : Str) : Prop := ∃ (C : Addr) (B newId initId : String) (bmB : List Value), ExcBaseFacts B newId initId bmB ∧ PySem.W.excIn K C bmB newId = true ∧ mg x = some (.ref C) ∧ PySem.W.keepIn K (.ref C) = true ∧
  PySem.W.subIn K (.ref C) (.type "BaseException") = some true ∧ PySem.W.typeIn K (.ref C) = some (.type "type")
theorem b_raise {x m : Str} {j : Nat} {p1 p2 p3 : Pos} (tk : Takes X (wOf E)) (h : ErrC X.K X.mg x) (hc : X.calm = true := by rfl) (hg : Gl X x := by rfl) (hdb : (x == ("__debug__" : Str)) = false := by decide) :
    PS X (.Raise (some (.Call (.Name x p1) [.Constant (.str m) j p2] [] p3)) none pos) (rS X E L G (.raise x m)) := by
  obtain ⟨C, B, newId, initId, bmB, F, q, gC, kC, h1, h2⟩ := h
  exact S_raise hc tk F q gC kC (raises_own h1 h2) hg hdb
end
end MM
set_option Elab.async false
set_option linter.all false
set_option maxRecDepth 100000
/-! M13: sorted; o[i] op= e. -/
namespace MM
open PySem PySem.Spec PyProof.Rows L2
/-! ### uniqueness of a sorted list -/
theorem perm_uniq {α : Type} {r : α → α → Prop} (anti : ∀ x y, r x y → r y x → x = y) : ∀ (l m : List α), l.Perm m → l.Pairwise r → m.Pairwise r → l = m
  | [], m, p, _, _ => by rw [List.nil_perm.mp p]
  | x :: l, [], p, _, _ => absurd (List.perm_nil.mp p) (by simp)
  | x :: l, y :: m, p, hl, hm => by
    obtain ⟨l1, l2⟩ := List.pairwise_cons.mp hl
    obtain ⟨m1, m2⟩ := List.pairwise_cons.mp hm
    have e : x = y := by
      rcases List.mem_cons.mp (p.mem_iff.mp (List.mem_cons_self (a := x) (l := l))) with e | hx
      · exact e
      · rcases List.mem_cons.mp (p.mem_iff.mpr (List.mem_cons_self (a := y) (l := m))) with e | hy
        · exact e.symm
        · exact anti x y (l1 y hy) (m1 x hx)
    subst e
    rw [perm_uniq anti l m p.cons_inv l2 m2]
theorem insI_perm (x : Int) : ∀ l : List Int, (insI x l).Perm (x :: l)
  | [] => .refl _
  | y :: r => by
    unfold insI
    split
    · exact .refl _
    · exact ((insI_perm x r).cons y).trans (.swap x y r)
theorem sortI_perm : ∀ l : List Int, (sortI l).Perm l
  | [] => .refl _
  | x :: r => (insI_perm x _).trans ((sortI_perm r).cons x)
theorem insI_sorted (x : Int) : ∀ l : List Int, l.Pairwise (· ≤ ·) → (insI x l).Pairwise (· ≤ ·)
  | [], _ => by simp [insI]
  | y :: r, h => by
    obtain ⟨h1, h2⟩ := List.pairwise_cons.mp h
    unfold insI
    split
    · rename_i hxy
      exact List.pairwise_cons.mpr ⟨fun z hz => by
        rcases List.mem_cons.mp hz with rfl | hz
        · exact hxy
        · exact Int.le_trans hxy (h1 z hz), h⟩
    · rename_i hxy
      refine List.pairwise_cons.mpr ⟨fun z hz => ?_, insI_sorted x r h2⟩
      rcases List.mem_cons.mp ((insI_perm x r).mem_iff.mp hz) with rfl | hz
      · omega
      · exact h1 z hz
theorem sortI_sorted : ∀ l : List Int, (sortI l).Pairwise (· ≤ ·)
  | [] => .nil
  | x :: r => insI_sorted x _ (sortI_sorted r)
theorem sortI_uniq {l m : List Int} (p : m.Perm l) (h : m.Pairwise (· ≤ ·)) : m = sortI l :=
  perm_uniq (fun x y a b => Int.le_antisymm a b) m _ (p.trans (sortI_perm l).symm) h (sortI_sorted l)
/-! ### the order of tuples -/
theorem lexLt_asym : ∀ x y : List Int, lexLtI x y = true → lexLtI y x = false
  | [], [], h => by cases h
  | [], _ :: _, _ => rfl
  | _ :: _, [], h => by cases h
  | a :: x, b :: y, h => by
    have h : (if a = b then lexLtI x y else decide (a < b)) = true := h
    show (if b = a then lexLtI y x else decide (b < a)) = false
    by_cases e : a = b
    · rw [if_pos e] at h
      rw [if_pos e.symm]
      exact lexLt_asym x y h
    · rw [if_neg e, decide_eq_true_eq] at h
      rw [if_neg (Ne.symm e), decide_eq_false_iff_not]
      omega
theorem lexLt_tr : ∀ x y z : List Int, lexLtI y x = false → lexLtI z y = false → lexLtI z x = false
  | _, _, [], h1, h2 => by
    rename_i x y
    cases y with
    | nil => cases x with
      | nil => rfl
      | cons a b => cases h1
    | cons a b => cases h2
  | [], _, _ :: _, _, _ => rfl
  | a :: x, [], c :: z, h1, _ => by cases h1
  | a :: x, b :: y, c :: z, h1, h2 => by
    have h1 : (if b = a then lexLtI y x else decide (b < a)) = false := h1
    have h2 : (if c = b then lexLtI z y else decide (c < b)) = false := h2
    show (if c = a then lexLtI z x else decide (c < a)) = false
    by_cases e1 : b = a <;> by_cases e2 : c = b
    · rw [if_pos e1] at h1
      rw [if_pos e2] at h2
      rw [if_pos (e2.trans e1)]
      exact lexLt_tr x y z h1 h2
    · rw [if_neg e2, decide_eq_false_iff_not] at h2
      rw [if_neg (by omega), decide_eq_false_iff_not]
      omega
    · rw [if_neg e1, decide_eq_false_iff_not] at h1
      rw [if_neg (by omega), decide_eq_false_iff_not]
      omega
    · rw [if_neg e1, decide_eq_false_iff_not] at h1
      rw [if_neg e2, decide_eq_false_iff_not] at h2
      rw [if_neg (by omega), decide_eq_false_iff_not]
      omega
theorem lexLt_anti : ∀ x y : List Int, lexLtI x y = false → lexLtI y x = false → x = y
  | [], [], _, _ => rfl
  | [], _ :: _, h, _ => by cases h
  | _ :: _, [], _, h => by cases h
  | a :: x, b :: y, h1, h2 => by
    have h1 : (if a = b then lexLtI x y else decide (a < b)) = false := h1
    have h2 : (if b = a then lexLtI y x else decide (b < a)) = false := h2
    by_cases e : a = b
    · rw [if_pos e] at h1
      rw [if_pos e.symm] at h2
      rw [e, lexLt_anti x y h1 h2]
    · rw [if_neg e, decide_eq_false_iff_not] at h1
      rw [if_neg (Ne.symm e), decide_eq_false_iff_not] at h2
      omega
abbrev LeT (x y : List Int) : Prop := lexLtI y x = false
theorem insT_perm (x : List Int) : ∀ l : List (List Int), (insT x l).Perm (x :: l)
  | [] => .refl _
  | y :: r => by
    unfold insT
    split
    · exact ((insT_perm x r).cons y).trans (.swap x y r)
    · exact .refl _
theorem sortT_perm : ∀ l : List (List Int), (sortT l).Perm l
  | [] => .refl _
  | x :: r => (insT_perm x _).trans ((sortT_perm r).cons x)
theorem insT_sorted (x : List Int) : ∀ l : List (List Int), l.Pairwise LeT → (insT x l).Pairwise LeT
  | [], _ => by simp [insT]
  | y :: r, h => by
    obtain ⟨h1, h2⟩ := List.pairwise_cons.mp h
    unfold insT
    split
    · rename_i hxy
      refine List.pairwise_cons.mpr ⟨fun z hz => ?_, insT_sorted x r h2⟩
      rcases List.mem_cons.mp ((insT_perm x r).mem_iff.mp hz) with rfl | hz
      · exact lexLt_asym _ _ hxy
      · exact h1 z hz
    · rename_i hxy
      have hxy : lexLtI y x = false := by simpa using hxy
      exact List.pairwise_cons.mpr ⟨fun z hz => by
        rcases List.mem_cons.mp hz with rfl | hz
        · exact hxy
        · exact lexLt_tr x y z hxy (h1 z hz), h⟩
theorem sortT_sorted : ∀ l : List (List Int), (sortT l).Pairwise LeT
  | [] => .nil
  | x :: r => insT_sorted x _ (sortT_sorted r)
theorem sortT_uniq {l m : List (List Int)} (p : m.Perm l) (h : m.Pairwise LeT) : m = sortT l :=
  perm_uniq (fun x y a b => (lexLt_anti y x a b).symm) m _ (p.trans (sortT_perm l).symm) h (sortT_sorted l)
/-! ### sorted of tuples of ints -/
section
variable {prog : Program} {w : World} {A : Around} {E : Value → Shared → Prop} {s : Shared}
theorem lex_any {Q : Bool → Shared → Prop} {b : Bool} {xs ys : List Value} {ns ms : List Int} (i : Nat) (hx : IntsAre xs ns) (hy : IntsAre ys ms)
    (h : Q (lexLtI ns ms) s) : PySem.W.KatLex prog w A b (decide (xs.length < ys.length)) Q (xs.zip ys) i s := by
  induction hx generalizing ys ms i with
  | nil =>
    cases hy with
    | nil => exact PySem.W.kat_nil h
    | cons q u hy => exact PySem.W.kat_nil h
  | @cons p t xs ns hx ih =>
    cases hy with
    | nil => exact PySem.W.kat_nil h
    | @cons q u ys ms hy =>
      have e : decide ((Value.int p t :: xs).length < (Value.int q u :: ys).length) = decide (xs.length < ys.length) := by simp
      rw [e]
      show PySem.W.KatLex prog w A b _ Q ((Value.int p t, Value.int q u) :: xs.zip ys) i s
      refine PySem.W.kat_cons (wpAny_eqBool_int ?_)
      have h : Q (if p = q then lexLtI ns ms else decide (p < q)) s := h
      by_cases e : p = q
      · subst e
        rw [beq_self_eq_true]
        rw [if_pos rfl] at h
        refine PySem.W.kat_yes ?_
        first
          | exact ih (i + 1) hy h
          | exact ih _ _ (i + 1) hy h
      · rw [show (p == q) = false from beq_eq_false_iff_ne.mpr e]
        rw [if_neg e] at h
        exact PySem.W.kat_no (TS.oneLt_ints _ h)
theorem firsts_T {h : Heap} : ∀ vs : List Value, (∀ v, v ∈ vs → ∃ ns, TS.TupInts h v ns ∧ ns ≠ []) → ∃ fs, PySem.W.KatTups h vs fs ∧ fs.length = vs.length ∧ ∀ f, f ∈ fs → ∃ n t, f = Value.int n t
  | [], _ => ⟨[], PySem.W.KatTups.nil, rfl, fun f hf => by simp at hf⟩
  | v :: vs, x => by
    obtain ⟨fs, k, hl, hi⟩ := firsts_T vs fun u hu => x u (List.mem_cons_of_mem _ hu)
    obtain ⟨ns, ⟨a, xs, rfl, ⟨o, ho, hc, n, hdt⟩, i⟩, hn⟩ := x v (List.mem_cons_self ..)
    obtain ⟨y, ys, e⟩ : ∃ y ys, xs.toList = y :: ys := by
      cases q : xs.toList with
      | nil =>
        rw [q] at i
        have l := i.length
        rw [List.length_nil] at l
        exact absurd (List.length_eq_zero_iff.mp l.symm) hn
      | cons y ys => exact ⟨y, ys, rfl⟩
    obtain ⟨m, t, hy⟩ := i.all y (by rw [e]; exact List.mem_cons_self ..)
    refine ⟨y :: fs, PySem.W.KatTups.cons ho hc hdt ?_ k, by simp [hl], ?_⟩
    · have z := congrArg (fun l : List Value => l[0]?) e
      simpa using z
    · intro f hf
      rcases List.mem_cons.mp hf with rfl | hf
      · exact ⟨m, t, hy⟩
      · exact hi f hf
theorem tups_sortable {a : Addr} {vs : List Value} (h0 : 0 < vs.length) (hp : ∀ v, v ∈ vs → ∃ ns, TS.TupInts s.heap v ns ∧ ns ≠ []) (ha : ∀ o, s.heap.get? a = some o → o.cls ≠ .type "tuple") (k : Value → List Int) (hk : ∀ v, v ∈ vs → ∀ ns, TS.TupInts s.heap v ns → k v = ns) :
    SrtO.SortableO prog w A s a vs fun v u => lexLtI (k v) (k u) := by
  intro h' keep
  have kp : ∀ b o, s.heap.get? b = some o → o.cls = .type "tuple" → h'.get? b = some o := fun b o e c => keep b o (fun z => by subst z; exact ha o e c) e
  have hp' : ∀ v, v ∈ vs → ∃ ns, TS.TupInts h' v ns ∧ ns ≠ [] := fun v hm => let ⟨ns, t, n⟩ := hp v hm; ⟨ns, t.keeps kp, n⟩
  have hk' : ∀ v, v ∈ vs → TS.TupInts h' v (k v) := fun v hm => by
    obtain ⟨ns, t, _⟩ := hp v hm
    rw [hk v hm ns t]
    exact t.keeps kp
  obtain ⟨fs, k1, hl, hi⟩ := firsts_T vs hp'
  refine ⟨tuples' (Value.type "int" != Value.type "tuple"), fun Q E hq => PySem.W.kat_kind (T := .type "int") k1 (by omega) (fun f hf => ?_) rfl hq, fun p q hm hm' => ?_⟩
  · obtain ⟨x, t, rfl⟩ := hi f hf
    exact PySem.W.Looks.now
  · obtain ⟨a, xs, e1, ⟨o, ho, hc, n, hdt⟩, i⟩ := hk' _ hm
    obtain ⟨a', ys, e2, ⟨o', ho', hc', n', hdt'⟩, i'⟩ := hk' _ hm'
    show wpAny (model prog w) A (keyLt' (tuples' _) p.1 q.1) (fun r s' => s' = { s with heap := h' } ∧ r = lexLtI (k p.1) (k q.1)) (fun _ _ => False) _
    generalize k p.1 = kp1 at i ⊢
    generalize k q.1 = kq1 at i' ⊢
    rw [e1, e2]
    refine PySem.W.kat_lt ho hdt ho' hdt' ?_
    have sz : decide (xs.size < ys.size) = decide (xs.toList.length < ys.toList.length) := by simp
    rw [sz]
    exact lex_any 0 i i' ⟨rfl, rfl⟩
end
theorem swo_lexT (k : Value → List Int) : SrtO.Swo (fun v u => lexLtI (k v) (k u)) := ⟨fun x y h => lexLt_asym _ _ h, fun x y z h1 h2 => lexLt_tr _ _ _ h1 h2⟩
/-- sorted(xs), xs a list of tuples of ints, none empty, any number of them -/
def rSortT (K : PySem.W.Frag) : List V → Hp → VK → Prop := fun vs H Q => ∃ (a : Addr) (xs : List V), vs = [V.ref a] ∧ SqL K H a xs ∧ (∀ x ∈ xs, ∃ ns, TupI K H x ns ∧ ns ≠ []) ∧
  ∀ (ys : List V) (p : Addr), ys.Perm xs → ys.Pairwise (fun x y => ∀ n m, TupI K H x n → TupI K H y m → LeT n m) → H p = none → Q (.ref p) (upd H p (.lst ys))
section
variable {X : Cx}
theorem cr_sortTup : CallR X (.builtin "sorted") (rSortT X.K) := by
  intro pins s σ H vs us Q I r h
  obtain ⟨a, xs, rfl, hs, hx, q⟩ := h
  obtain ⟨its, rv, hl, hz⟩ := I.list hs
  rw [Vals.ref1 r]
  obtain ⟨e1, e2⟩ := bkV_refs rv fun x m => by
    obtain ⟨ns, ⟨t, e, _⟩, _⟩ := hx x m
    exact ⟨t, e⟩
  have hp : ∀ v, v ∈ its → ∃ ns, TS.TupInts s.heap v ns ∧ ns ≠ [] := fun v hv => by
    obtain ⟨t, rfl⟩ := e2 v hv
    have hm : V.ref t ∈ xs := by
      rw [e1]
      exact List.mem_map.mpr ⟨_, hv, rfl⟩
    obtain ⟨ns, ⟨t', e, ht⟩, hn⟩ := hx _ hm
    cases e
    exact ⟨ns, tupI_raw I ht, hn⟩
  refine SrtO.sorted_ord (swo_lexT (TS.intsOf s.heap)) hl.isList (by rw [← rv.length]; exact hz) (fun h2 h₁ a' ha' kk => ?_) fun out h1 h2 => ?_
  · refine tups_sortable (s := { s with heap := h₁ }) (by omega) (fun v hv => ?_) (fun o e => ?_) _ fun v hv ns t => ?_
    · obtain ⟨ns, t, n⟩ := hp v hv
      exact ⟨ns, t.keeps fun b o e _ => (kk b o e).2, n⟩
    · have e' : some o = some (seqObj "list" its.toArray 0) := e.symm.trans ha'
      cases e'
      intro c
      exact absurd (Value.type.inj c) (by decide)
    · obtain ⟨ns', t', _⟩ := hp v hv
      rw [t'.ints]
      have t2 : TS.TupInts h₁ v ns' := t'.keeps fun b o e _ => (kk b o e).2
      exact t2.ints.symm.trans t.ints
  · obtain ⟨ep, he'⟩ := PyProof.Rows.sortedAll_at s.heap its out.toArray
    have h3 : ∀ u ∈ out, ∃ a, u = Value.ref a := fun u hu => e2 u (h2.perm.mem_iff.mp hu)
    have hpm : (out.map bkV).Perm xs := by
      rw [e1]
      exact h2.perm.map bkV
    have hlen : (out.map bkV).length ≤ sizeLine := by
      rw [hpm.length_eq]
      exact hz
    refine ⟨.ref _, upd H (s.heap.objs.size + 1) (.lst (out.map bkV)), I.laid (t' := s.toks) (fun _ _ => PyProof.Rows.sortedAll_old) (Nat.le_succ _) ⟨hlen, out, ep, bkV_vals h3, he'⟩, rfl, q _ _ hpm ?_ (I.hok.fresh (Nat.le_succ _))⟩
    rw [List.pairwise_map]
    refine List.Pairwise.imp (fun {u v} huv n m hn hm => ?_) h1
    obtain ⟨t, et, ht⟩ := hn
    obtain ⟨t', et', ht'⟩ := hm
    have eu := bkV_ref et
    have ev := bkV_ref et'
    have i1 : TS.intsOf s.heap u = n := by
      rw [eu]
      exact (tupI_raw I ht).ints
    have i2 : TS.intsOf s.heap v = m := by
      rw [ev]
      exact (tupI_raw I ht').ints
    show lexLtI m n = false
    rw [← i1, ← i2]
    exact huv
/-! ### as a maker of lists -/
theorem RVs.perm {K : PySem.W.Frag} {as : Trk} {H : Hp} : ∀ {xs ys : List V}, xs.Perm ys → ∀ ms, RVs K as H ms xs → ∃ ms', ms.Perm ms' ∧ RVs K as H ms' ys := by
  intro xs ys p
  induction p with
  | nil => exact fun ms r => ⟨ms, .refl _, r⟩
  | cons x p ih =>
    intro ms r
    cases ms with
    | nil => cases (show _ :: _ = [] from r)
    | cons m ms =>
      obtain ⟨v, w, e, a, b⟩ := r
      cases e
      obtain ⟨ms', h1, h2⟩ := ih ms b
      exact ⟨m :: ms', h1.cons m, ⟨_, _, rfl, a, h2⟩⟩
  | swap x y l =>
    intro ms r
    match ms, r with
    | [], r => cases (show _ :: _ = [] from r)
    | [_], r => obtain ⟨v, w, e, a, b⟩ := r; cases e; cases (show _ :: _ = [] from b)
    | m1 :: m2 :: ms, r =>
      obtain ⟨v, w, e, a, b⟩ := r
      cases e
      obtain ⟨v2, w2, e, a2, b2⟩ := b
      cases e
      exact ⟨m2 :: m1 :: ms, .swap m2 m1 ms, ⟨_, _, rfl, a2, _, _, rfl, a, b2⟩⟩
  | trans p q ih1 ih2 =>
    intro ms r
    obtain ⟨ms1, h1, r1⟩ := ih1 ms r
    obtain ⟨ms2, h2, r2⟩ := ih2 ms1 r1
    exact ⟨ms2, h1.trans h2, r2⟩
theorem RVs_ints {K : PySem.W.Frag} {as : Trk} {H : Hp} : ∀ ns : List Int, RVs K as H (ns.map .int) (ns.map V.int)
  | [] => rfl
  | n :: r => ⟨.int n, r.map V.int, rfl, rfl, RVs_ints r⟩
theorem intsOf_map : ∀ {xs : List MV} {ns : List Int}, intsOf xs = some ns → xs = ns.map .int
  | [], ns, h => by cases (show some [] = some ns from h); rfl
  | x :: xs, ns, h => by
    cases x with
    | int i =>
      have h : (intsOf xs).map (i :: ·) = some ns := h
      cases q : intsOf xs with
      | none => rw [q] at h; cases h
      | some ms =>
        rw [q] at h
        cases h
        rw [intsOf_map q]
        rfl
    | _ => cases h
theorem tupsOf_map : ∀ {xs : List MV} {ts : List (List Int)}, tupsOf xs = some ts → xs = ts.map tupM ∧ ∀ t ∈ ts, t ≠ []
  | [], ts, h => by cases (show some [] = some ts from h); exact ⟨rfl, fun t h => absurd h (by simp)⟩
  | x :: xs, ts, h => by
    have h : (match tupOf x, tupsOf xs with | some (n :: ns), some ts => some ((n :: ns) :: ts) | _, _ => none) = some ts := h
    split at h
    · rename_i n ns ts' e1 e2
      cases h
      obtain ⟨h1, h2⟩ := tupsOf_map e2
      refine ⟨?_, fun t ht => ?_⟩
      · cases x with
        | tup ys =>
          rw [h1]
          show MV.tup ys :: _ = MV.tup ((n :: ns).map .int) :: _
          rw [intsOf_map (show intsOf ys = some (n :: ns) from e1)]
        | _ => cases e1
      · rcases List.mem_cons.mp ht with rfl | ht
        · exact fun z => nomatch z
        · exact h2 t ht
    · cases h
theorem tupI_of {K : PySem.W.Frag} {as : Trk} {H : Hp} {ns : List Int} {v : V} (r : RV K as H (tupM ns) v) : TupI K H v ns := by
  obtain ⟨a, vs, rfl, t, rv⟩ := r
  refine ⟨a, rfl, ?_⟩
  have e := Vals_intsOf (ns := ns) (xs := ns.map .int) ?_ rv
  · rw [← e]; exact t.sq
  · clear rv t
    induction ns with
    | nil => rfl
    | cons n r ih => show (intsOf (r.map .int)).map (n :: ·) = _; rw [ih]; rfl
theorem RVs.mem' {K : PySem.W.Frag} {as : Trk} {H : Hp} : ∀ {ms : List MV} {vs : List V}, RVs K as H ms vs → ∀ v ∈ vs, ∃ m ∈ ms, RV K as H m v
  | [], vs, r, v, h => by cases (show vs = [] from r); cases h
  | m :: ms, vs, r, v, h => by
    obtain ⟨u, w, rfl, a, b⟩ := r
    rcases List.mem_cons.mp h with rfl | h
    · exact ⟨m, List.mem_cons_self, a⟩
    · obtain ⟨m', h1, h2⟩ := RVs.mem' b v h
      exact ⟨m', List.mem_cons_of_mem _ h1, h2⟩
theorem pair_of {K : PySem.W.Frag} {as : Trk} {H : Hp} : ∀ {ts : List (List Int)} {vs : List V}, RVs K as H (ts.map tupM) vs → vs.Pairwise (fun x y => ∀ n m, TupI K H x n → TupI K H y m → LeT n m) → ts.Pairwise LeT
  | [], vs, r, h => .nil
  | t :: ts, vs, r, h => by
    obtain ⟨u, w, rfl, a, b⟩ := r
    obtain ⟨h1, h2⟩ := List.pairwise_cons.mp h
    refine List.pairwise_cons.mpr ⟨fun t' ht => ?_, pair_of b h2⟩
    obtain ⟨i, hi, e⟩ := List.getElem_of_mem ht
    obtain ⟨v, hv, rv⟩ := b.get (i := i) (x := tupM t') (by rw [List.getElem?_map, List.getElem?_eq_getElem hi, e]; rfl)
    exact h1 v (List.mem_of_getElem? hv) t t' (tupI_of a) (tupI_of rv)
theorem perm_map {α β : Type} {f : α → β} : ∀ {xs : List α} {ys : List β}, (xs.map f).Perm ys → ∃ zs, xs.Perm zs ∧ zs.map f = ys := by
  intro xs ys p
  generalize e : xs.map f = l at p
  induction p generalizing xs with
  | nil => cases xs with
    | nil => exact ⟨[], .refl _, rfl⟩
    | cons a b => cases e
  | cons x p ih => cases xs with
    | nil => cases e
    | cons a b =>
      cases e
      obtain ⟨zs, h1, h2⟩ := ih rfl
      exact ⟨a :: zs, h1.cons a, by rw [List.map_cons, h2]⟩
  | swap x y l => match xs, e with
    | a :: b :: r, e => cases e; exact ⟨b :: a :: r, .swap b a r, rfl⟩
  | trans p q ih1 ih2 =>
    obtain ⟨zs, h1, h2⟩ := ih1 e
    obtain ⟨ws, h3, h4⟩ := ih2 h2
    exact ⟨ws, h1.trans h3, h4⟩
variable {W : WX} {G : Callee} {pos : Pos}
theorem CallR.or {f : Value} {r r' : List V → Hp → VK → Prop} (h : CallR X f r) (h' : CallR X f r') : CallR X f (fun xs H Q => r xs H Q ∨ r' xs H Q) := by
  intro pins s σ H vs us Q I rs q
  rcases q with q | q
  · exact h pins s σ H vs us Q I rs q
  · exact h' pins s σ H vs us Q I rs q
theorem c_sorted {a : Expr} {p : Pos} {ma : ME} (hm : X.mg "sorted" = none) (ha : PE X a (rE X W G ma)) (hg : Gl X "sorted" := by rfl) (hs : starEach [a] X.env = (false, eval a X.env) :: starEach [] X.env := by rfl) :
    PE X (.Call (.Name "sorted" p) [a] [] pos) (rF X W G (.sorted ma)) := by
  refine PE.imp (pe_callB (CallR.or cr_sortedI cr_sortTup) hg hm (by decide +kernel) (a_one ha hs) (by decide) (by decide) hs rfl) fun σ H Q ⟨as, h, e, S, E, p⟩ => ⟨as, h, e, S, E, ?_⟩
  have p : Post X.K X.mg W (RFr X.K H) as H σ Q ((evE G ma e h).bind fun x h1 => match (lstOf h1 x).bind sortV with | some xs => .ok xs h1 | none => .bad) := p
  refine p.bind fun x h1 as1 H1 v x1 S1 r1 p1 => ?_
  cases q : lstOf h1 x with
  | none => rw [q] at p1; exact False.elim p1
  | some xs =>
    rw [q] at p1
    have p1 : Post X.K X.mg W (RFr X.K H) as1 H1 σ Q (match sortV xs with | some xs => .ok xs h1 | none => .bad) := p1
    obtain ⟨a, vs, rfl, hH, rv⟩ := S1.derfL (lstOf_derf q) r1
    unfold sortV at p1
    cases qi : intsOf xs with
    | some ns =>
      rw [qi] at p1
      have p1 : Post X.K X.mg W (RFr X.K H) as1 H1 σ Q (.ok ((sortI ns).map .int) h1) := p1
      refine .inl ⟨a, ns, rfl, by rw [← Vals_intsOf qi rv]; exact .inl (.inl hH), fun ns' q pm so hq => ?_⟩
      rw [sortI_uniq pm so]
      exact p1 as1 _ (.ref q) (Ext.new S1 hq) (S1.new hq) (RFr.new S x1 S1 hq (RVs_ints _))
    | none =>
      rw [qi] at p1
      cases qt : tupsOf xs with
      | none => rw [qt] at p1; exact False.elim p1
      | some ts =>
        rw [qt] at p1
        have p5 : Post X.K X.mg W (RFr X.K H) as1 H1 σ Q (.ok ((sortT ts).map tupM) h1) := p1
        obtain ⟨e1, e2⟩ := tupsOf_map qt
        subst e1
        refine .inr ⟨a, vs, rfl, .inl (.inl hH), fun x hx => ?_, fun ys q pm so hq => ?_⟩
        · obtain ⟨m, hm, r⟩ := rv.mem' x hx
          obtain ⟨t, ht, rfl⟩ := List.mem_map.mp hm
          exact ⟨t, tupI_of r, e2 t ht⟩
        · obtain ⟨ms', pm', r'⟩ := RVs.perm pm.symm _ rv
          obtain ⟨zs, h3, h4⟩ := perm_map pm'
          subst h4
          rw [← sortT_uniq h3.symm (pair_of r' so)] at p5
          exact p5 as1 _ (.ref q) (Ext.new S1 hq) (S1.new hq) (RFr.new S x1 S1 hq r')
/-! ### o[i] op= e -/
theorem get_seqM : PGet X (fun o i H Q => ∃ a xs k v, o = .ref a ∧ i = .int k ∧ SqL X.K H a xs ∧ atI xs k = some v ∧ Q v H) := by
  intro pins s σ H o i ov iv Q I ro ri h
  obtain ⟨p, xs, i, z, rfl, rfl, hq, he, q⟩ := h
  cases ro
  obtain ⟨t, rfl⟩ := ri
  obtain ⟨its, r, pl, hz⟩ := I.list hq
  obtain ⟨j, h1, h2, h3, h4, h5⟩ := atI_get he
  obtain ⟨w, ew, rw'⟩ := r.get h2
  have hl := r.length
  have hn := line63
  have fin : EP X pins σ Q w s := ⟨z, H, I, rw', q⟩
  by_cases h0 : 0 ≤ i
  · have hj : i.toNat = j := by
      rw [seqIndex_of h0 h5] at h1
      exact Option.some.inj h1
    exact wpAny_getItem_list pl.isList h0 (by omega) (by rw [hj]; simpa using ew) fin
  · have hj : (i + (its.toArray.size : Int)).toNat = j := by
      rw [seqIndex_neg (by omega) h4] at h1
      rw [List.size_toArray, ← hl]
      exact Option.some.inj h1
    exact wpAny_getItem_list_neg pl.isList (by omega) (by rw [List.size_toArray] <;> omega) (by omega) (by rw [hj]; simpa using ew) fin
theorem S_augI {E : XK} {o i e : Expr} {op : BO} {tpos : Pos} {fo fi fa : MEnv → MH → Res MV} (ho : PE X o (rdE X (wOf E) fo)) (hi : PE X i (rdE X (wOf E) fi)) (he : PE X e (rdE X (wOf E) fa)) (hp : PIp X (opOf op) (rIp X op))
    (ha : ∀ ov iv new, augStore i ov iv new = (do holding [new, ov, iv] (setItem ov iv new); release [new, ov, iv] []; pure .next)) :
    PS X (.AugAssign (.Subscript o i tpos) (opOf op) e pos) (rdS X E fun e h => (fo e h).bind fun o h1 => (fi e h1).bind fun j h2 => match o with
      | .ref n => (ixV (.ref n) j h2).bind fun x h3 => (fa e h3).bind fun y h4 => (ipV op x y h4).bind fun z h5 => (setIx (.ref n) j z h5).bind fun _ h6 => .ok (.nx, e) h6
      | _ => .bad) := by
  refine PS.imp (ps_augS ho hi get_seqM he hp set_list ha) fun D σ H ⟨as, h, e, S, En, p⟩ => ⟨as, h, e, S, En, PostS.bind p fun o h1 as1 H1 vo x1 S1 r1 p1 => ⟨as1, h1, e, S1, En.ext x1, PostS.bind p1 fun j h2 as2 H2 vj x2 S2 r2 p2 => ?_⟩⟩
  cases o with
  | ref n =>
    dsimp only at p2
    cases j with
    | int k =>
      have hx : ixV (.ref n) (.int k) h2 = (match (seqOf h2 (.ref n)).bind (atI · k) with | some v => .ok v h2 | none => .bad) := rfl
      cases q : seqOf h2 (.ref n) with
      | none => rw [hx, q] at p2; exact False.elim p2
      | some xs =>
        cases q2 : atI xs k with
        | none => rw [hx, q] at p2; simp only [Option.bind_some, q2] at p2; exact False.elim p2
        | some x =>
          rw [hx, q] at p2
          simp only [Option.bind_some, q2, Res.bind_ok] at p2
          have ro := RV.ext x2 _ _ r1
          have q' : h2[n]? = some (.lst xs) := by
            have q' : (match h2[n]? with | some (.lst xs) => some xs | _ => none) = some xs := q
            split at q'
            · rename_i ys e1
              cases q'
              exact e1
            · cases q'
          obtain ⟨a, vs, rfl, ha', hH, rv, fl⟩ := S2.lst q' ro
          obtain ⟨v, hv, rx⟩ := atI_RVs rv q2
          refine ⟨a, vs, k, v, rfl, r2, .inl (.inl hH), hv, as2, h2, e, S2, (En.ext x1).ext x2, PostS.bind p2 fun y h4 as4 H4 w x4 S4 r4 p4 => ⟨as4, h4, x, y, S4, RV.ext x4 _ _ rx, r4, ?_⟩⟩
          rcases ipV_cases op x y h4 with ⟨z, h5, q3⟩ | q3
          · rw [q3] at p4 ⊢
            intro as5 H5 b x5 S5 r5
            rcases setIx_in S5 (RV.ext (x4.trans x5) _ _ ro) (RV.ext (x2.trans (x4.trans x5)) (.int k) vj (show RV X.K as1 H1 (.int k) vj from r2)) r5 with ⟨h', a', vs', k', jj, e1, e2, e3, hH', hj, xx, SS⟩ | e1
            · cases e2
              cases (show vj = .int k from r2)
              cases e3
              have p5 : PostS X.K X.mg E as4 H4 D ((setIx (.ref n) (.int k) z h5).bind fun _ h6 => .ok (.nx, e) h6) := p4
              rw [e1] at p5
              exact ⟨a, vs', k, jj, rfl, rfl, hH', hj, p5 as5 _ σ (x5.trans xx) SS ((((En.ext x1).ext x2).ext x4).ext (x5.trans xx))⟩
            · have p5 : PostS X.K X.mg E as4 H4 D ((setIx (.ref n) (.int k) z h5).bind fun _ h6 => .ok (.nx, e) h6) := p4
              rw [e1] at p5
              exact False.elim p5
          · rw [q3] at p4
            exact False.elim p4
    | _ => exact False.elim p2
  | _ => exact False.elim p2
theorem b_augIA {E : XK} {L : Option Nat} {o i e : Expr} {tpos : Pos} {mo mi m : ME} (ho : PE X o (rE X (wOf E) G mo)) (hi : PE X i (rE X (wOf E) G mi)) (he : PE X e (rE X (wOf E) G m))
    (ha : ∀ ov iv new, augStore i ov iv new = (do holding [new, ov, iv] (setItem ov iv new); release [new, ov, iv] []; pure .next) := by intros; rfl) :
    PS X (.AugAssign (.Subscript o i tpos) .Add e pos) (rS X E L G (.augIx mo mi .add m)) := S_augI (op := .add) ho hi he ip_addM ha
theorem b_augIS {E : XK} {L : Option Nat} {o i e : Expr} {tpos : Pos} {mo mi m : ME} (ho : PE X o (rE X (wOf E) G mo)) (hi : PE X i (rE X (wOf E) G mi)) (he : PE X e (rE X (wOf E) G m))
    (ha : ∀ ov iv new, augStore i ov iv new = (do holding [new, ov, iv] (setItem ov iv new); release [new, ov, iv] []; pure .next) := by intros; rfl) :
    PS X (.AugAssign (.Subscript o i tpos) .Sub e pos) (rS X E L G (.augIx mo mi .sub m)) := S_augI (op := .sub) ho hi he ip_subM ha
/-! ### repr -/
mutual
theorem noDict : ∀ d : MV, (toPD d).hasDict = false
  | .non => rfl
  | .bl _ => rfl
  | .int _ => rfl
  | .str _ => rfl
  | .tup xs => noDicts xs
  | .lst xs => noDicts xs
  | .scr _ => rfl
  | .ref _ => rfl
  | .atm _ => rfl
theorem noDicts : ∀ xs : List MV, PyData.hasDictAll (toPDs xs) = false
  | [] => rfl
  | x :: xs => by
    show (PyData.hasDict (toPD x) || PyData.hasDictAll (toPDs xs)) = false
    rw [noDict x, noDicts xs]
    rfl
end
theorem call_repr {k : Nat} (hr : RoomG k X.A) : CallR X (.builtin "repr") (rC X fun vs h => match vs with | [x] => reprV x h | _ => .bad) := by
  intro pins s σ H vs us Q I rs q
  obtain ⟨as, h, ms, z, S, r, e, q⟩ := q
  match ms, r, e with
  | [], _, e => cases e
  | _ :: _ :: _, _, e => cases e
  | [x], r, e =>
    obtain ⟨v, rfl, rv⟩ := r.one_inv
    obtain ⟨u, rfl, ru⟩ := vals1 rs
    have key : ∀ d, derf h x = d → (∃ a, v = .ref a) → reprD d h = .ok z h → wpAny (model X.prog X.w) X.A (call (.builtin "repr") [u]) (EP X pins σ Q) X.xe s := fun d hd ⟨a, ea⟩ e => by
      unfold reprD at e
      cases hl : (shp 50 d && (toPD d).showable && Nat.ble (toPD d).shown.length 16000000) with
      | false => rw [hl] at e; cases e
      | true =>
        rw [hl] at e
        cases e
        simp only [Bool.and_eq_true] at hl
        obtain ⟨⟨l1, l2⟩, l3⟩ := hl
        have l3' := Nat.le_of_ble_eq_true l3
        subst hd
        have dp := S.dp l1 rv
        obtain ⟨bs, rd⟩ := Dp.reads I _ v u dp ru
        subst ea
        cases (show u = Value.ref a from ru)
        have hdep := (shp_pd 50 _ l1).2
        refine repr_of_reads' rd l2 (PyData.noDict_hsm (noDict _)) hr.gd ?_ (fun b o e => e) (fun h' u tk hk => ⟨.str _, H, I.kept (t' := tk) hk, ⟨_, rfl⟩, q as H _ .refl S rfl⟩) ?_
        · have := hr.room.un
          omega
        · rw [sizeLine_eq]; omega
    have e : reprV x h = .ok z h := e
    unfold reprV at e
    cases hx : derf h x with
    | tup xs =>
      rw [hx] at e
      refine key _ hx ?_ e
      cases x with
      | tup ys => obtain ⟨a, _, ea, _⟩ := rv; exact ⟨a, ea⟩
      | ref n => obtain ⟨a, _, ea⟩ := rv; exact ⟨a, ea⟩
      | _ => cases hx
    | lst xs =>
      rw [hx] at e
      refine key _ hx ?_ e
      obtain ⟨a, _, ea, _⟩ := S.derfL hx rv
      exact ⟨a, ea⟩
    | _ => rw [hx] at e; cases e
theorem reprV_ok (x : MV) (h : MH) : (∃ z, reprV x h = .ok z h) ∨ reprV x h = .bad := by
  unfold reprV reprD okIf
  split
  · split
    · exact .inl ⟨_, rfl⟩
    · exact .inr rfl
  · split
    · exact .inl ⟨_, rfl⟩
    · exact .inr rfl
  · exact .inr rfl
theorem c_repr {k : Nat} {a : Expr} {p : Pos} {ma : ME} (hr : RoomG k X.A) (hm : X.mg "repr" = none) (ha : PE X a (rE X W G ma)) (hg : Gl X "repr" := by rfl) (hs : starEach [a] X.env = (false, eval a X.env) :: starEach [] X.env := by rfl) :
    PE X (.Call (.Name "repr" p) [a] [] pos) (rE X W G (.repr ma)) := by
  refine PE.imp (pe_callB (call_repr hr) hg hm (by decide +kernel) (a_one ha hs) (by decide) (by decide) hs rfl) fun σ H Q ⟨as, h, e, S, E, p⟩ => ⟨as, h, e, S, E, ?_⟩
  have p : Post X.K X.mg W (RVr X.K) as H σ Q ((evE G ma e h).bind fun x h1 => reprV x h1) := p
  refine p.bind fun x h1 as1 H1 v x1 S1 r1 p1 => ?_
  obtain ⟨z, ez, q⟩ := p1.pure (reprV_ok x h1)
  exact ⟨as1, h1, [x], z, S1, RVs.one r1, ez, q⟩
/-! ### sorted(set(..)) -/
theorem code_lex {B : Int} : ∀ {x y : List Int}, x.length = y.length → TS.Bd B x → TS.Bd B y → lexLtI x y = true → TS.code B x < TS.code B y
  | [], [], _, _, _, h => by cases h
  | [], _ :: _, hl, _, _, _ => by cases hl
  | _ :: _, [], hl, _, _, _ => by cases hl
  | a :: x, b :: y, hl, h1, h2, h => by
    have hl' : x.length = y.length := by simpa using hl
    have h : (if a = b then lexLtI x y else decide (a < b)) = true := h
    by_cases e : a = b
    · have h' : lexLtI x y = true := by rw [if_pos e] at h; exact h
      subst e
      exact (TS.code_same hl').mpr (code_lex hl' h1.tail h2.tail h')
    · rw [if_neg e, decide_eq_true_eq] at h
      exact TS.code_lt hl' h1.tail h2.tail h
theorem memT_iff {x : List Int} : ∀ {l : List (List Int)}, memT x l = true ↔ x ∈ l
  | [] => by simp [memT]
  | y :: r => by simp [memT, memT_iff (l := r)]
theorem nubT_mem {x : List Int} : ∀ {l : List (List Int)}, x ∈ nubT l ↔ x ∈ l
  | [] => by simp [nubT]
  | y :: r => by
    unfold nubT
    split
    · rename_i h
      rw [nubT_mem, List.mem_cons]
      constructor
      · exact .inr
      · rintro (rfl | h2)
        · exact memT_iff.mp h
        · exact h2
    · rw [List.mem_cons, List.mem_cons, nubT_mem]
theorem nubT_nodup : ∀ l : List (List Int), (nubT l).Nodup
  | [] => by simp [nubT]
  | y :: r => by
    unfold nubT
    split
    · exact nubT_nodup r
    · rename_i h
      refine List.nodup_cons.mpr ⟨fun z => h ?_, nubT_nodup r⟩
      exact memT_iff.mpr (nubT_mem.mp z)
theorem perm_mem {α : Type} : ∀ (l m : List α), l.Nodup → m.Nodup → (∀ a, a ∈ l ↔ a ∈ m) → l.Perm m := fun l m h1 h2 h => (List.perm_ext_iff_of_nodup h1 h2).mpr h
theorem evenT_all {d : Nat} : ∀ {ts : List (List Int)}, evenT d ts = true → ∀ t ∈ ts, t.length = d ∧ ∀ i ∈ t, 0 ≤ i
  | [], _, t, h => by cases h
  | x :: r, h, t, ht => by
    have h : (Nat.beq x.length d && x.all (fun i => decide (0 ≤ i)) && evenT d r) = true := h
    rw [Bool.and_eq_true, Bool.and_eq_true, List.all_eq_true] at h
    rcases List.mem_cons.mp ht with rfl | ht
    · exact ⟨Nat.eq_of_beq_eq_true h.1.1, fun i hi => of_decide_eq_true (h.1.2 i hi)⟩
    · exact evenT_all h.2 t ht
theorem bound_one : ∀ (t : List Int), ∃ B : Int, ∀ i ∈ t, i < B
  | [] => ⟨0, fun i h => by cases h⟩
  | a :: r => by
    obtain ⟨B, hB⟩ := bound_one r
    refine ⟨if a < B then B else a + 1, fun i hi => ?_⟩
    rcases List.mem_cons.mp hi with rfl | hi
    · split <;> omega
    · have := hB i hi
      split <;> omega
theorem bound_all : ∀ (ts : List (List Int)), ∃ B : Int, ∀ t ∈ ts, ∀ i ∈ t, i < B
  | [] => ⟨0, fun t h => by cases h⟩
  | x :: r => by
    obtain ⟨B1, h1⟩ := bound_one x
    obtain ⟨B2, h2⟩ := bound_all r
    refine ⟨if B1 < B2 then B2 else B1, fun t ht i hi => ?_⟩
    rcases List.mem_cons.mp ht with rfl | ht
    · have := h1 i hi
      split <;> omega
    · have := h2 t ht i hi
      split <;> omega
/-- the addresses beside the tuples -/
theorem with_addr {K : PySem.W.Frag} {as : Trk} {H : Hp} : ∀ {ts : List (List Int)} {vs : List V}, RVs K as H (ts.map tupM) vs → ∃ ks : List (Addr × List Int), ks.map (fun p => V.ref p.1) = vs ∧ ks.map (·.2) = ts ∧ ∀ p ∈ ks, RV K as H (tupM p.2) (.ref p.1)
  | [], vs, r => by cases (show vs = [] from r); exact ⟨[], rfl, rfl, fun p h => by cases h⟩
  | t :: ts, vs, r => by
    obtain ⟨v, w, rfl, a, b⟩ := r
    obtain ⟨ks, h1, h2, h3⟩ := with_addr b
    have a0 := a
    obtain ⟨p, us, rfl, _⟩ := a
    refine ⟨(p, t) :: ks, by rw [List.map_cons, h1], by rw [List.map_cons, h2], fun q hq => ?_⟩
    rcases List.mem_cons.mp hq with rfl | hq
    · exact a0
    · exact h3 q hq
theorem of_addr {K : PySem.W.Frag} {as : Trk} {H : Hp} : ∀ {ks : List (Addr × List Int)}, (∀ p ∈ ks, RV K as H (tupM p.2) (.ref p.1)) → RVs K as H ((ks.map (·.2)).map tupM) (ks.map fun p => V.ref p.1)
  | [], _ => rfl
  | p :: ks, h => ⟨.ref p.1, ks.map (fun p => V.ref p.1), rfl, h p List.mem_cons_self, of_addr fun q hq => h q (List.mem_cons_of_mem _ hq)⟩
theorem tupI_sq {K : PySem.W.Frag} {as : Trk} {H : Hp} {ns : List Int} {a : Addr} (r : RV K as H (tupM ns) (.ref a)) : SqT K H a (ns.map V.int) := by
  obtain ⟨t, e, h⟩ := tupI_of r
  cases e
  exact h
theorem c_sortedSet {k : Nat} (hr : RoomG k X.A) {a : Expr} {p p2 pos2 : Pos} {ma : ME} (hm : X.mg "sorted" = none) (hm2 : X.mg "set" = none) (ha : PE X a (rE X W G ma)) (hc : X.calm = true := by rfl) (hg : Gl X "sorted" := by rfl) (hg2 : Gl X "set" := by rfl) (hs : starEach [a] X.env = (false, eval a X.env) :: starEach [] X.env := by rfl)
    (hs2 : starEach [.Call (.Name "set" p2) [a] [] pos2] X.env = (false, eval (.Call (.Name "set" p2) [a] [] pos2) X.env) :: starEach [] X.env := by rfl) :
    PE X (.Call (.Name "sorted" p) [.Call (.Name "set" p2) [a] [] pos2] [] pos) (rF X W G (.sortedSet ma)) := by
  have hu : X.A.units + 64 < cLine := by have := hr.room.un; omega
  refine PE.imp (pe_callB (cr_sortedT hc) hg hm (by decide +kernel) (a_one (pe_callTy (cr_setOfT hc hu) hg2 hm2 (by decide +kernel) (a_one ha hs) (by decide) (by decide) hs rfl) hs2) (by decide) (by decide) hs2 rfl) fun σ H Q ⟨as, h, e, S, E, p⟩ => ⟨as, h, e, S, E, ?_⟩
  have p : Post X.K X.mg W (RFr X.K H) as H σ Q ((evE G ma e h).bind fun x h1 => match (lstOf h1 x).bind sortSetV with | some xs => .ok xs h1 | none => .bad) := p
  refine p.bind fun x h1 as1 H1 v x1 S1 r1 p1 => ?_
  cases q : lstOf h1 x with
  | none => rw [q] at p1; exact False.elim p1
  | some xs =>
    rw [q] at p1
    have p1 : Post X.K X.mg W (RFr X.K H) as1 H1 σ Q (match sortSetV xs with | some xs => .ok xs h1 | none => .bad) := p1
    obtain ⟨l, vs, rfl, hH, rv⟩ := S1.derfL (lstOf_derf q) r1
    unfold sortSetV at p1
    cases qt : tupsOf xs with
    | none => rw [qt] at p1; exact False.elim p1
    | some ts =>
      rw [qt] at p1
      have p5 : Post X.K X.mg W (RFr X.K H) as1 H1 σ Q (match (match ts with | [] => some [] | t :: ts => if Nat.blt (ts.length + 1) 64 && evenT t.length (t :: ts) then some ((sortT (nubT (t :: ts))).map tupM) else none : Option (List MV)) with | some xs => .ok xs h1 | none => .bad) := by
        revert p1
        cases ts <;> exact fun p1 => p1
      obtain ⟨e1, e2⟩ := tupsOf_map qt
      subst e1
      obtain ⟨ks, k1, k2, k3⟩ := with_addr rv
      -- what the evaluator says, whatever the list
      have all : ∃ d : Nat, 1 ≤ d ∧ ts.length < 64 ∧ (∀ t ∈ ts, t.length = d ∧ ∀ i ∈ t, 0 ≤ i) ∧ Post X.K X.mg W (RFr X.K H) as1 H1 σ Q (.ok ((sortT (nubT ts)).map tupM) h1) := by
        cases ts with
        | nil => exact ⟨1, Nat.le_refl _, by simp, (fun t ht => by cases ht), p5⟩
        | cons t ts =>
          have p1 : Post X.K X.mg W (RFr X.K H) as1 H1 σ Q (match (if Nat.blt (ts.length + 1) 64 && evenT t.length (t :: ts) then some ((sortT (nubT (t :: ts))).map tupM) else none) with | some xs => .ok xs h1 | none => .bad) := p5
          cases hl : (Nat.blt (ts.length + 1) 64 && evenT t.length (t :: ts)) with
          | false => rw [hl] at p1; exact False.elim p1
          | true =>
            rw [hl] at p1
            rw [Bool.and_eq_true, Nat.blt_eq] at hl
            have hne := e2 t List.mem_cons_self
            exact ⟨t.length, by cases t with | nil => exact absurd rfl hne | cons => simp, by simpa using hl.1, evenT_all hl.2, p1⟩
      obtain ⟨d, hd, hlen, hts, p5⟩ := all
      obtain ⟨B, hB⟩ := bound_all ts
      have hks : ks.length = ts.length := by rw [← k2, List.length_map]
      refine ⟨l, ks, rfl, by rw [k1]; exact .inl (.inl hH), fun q hq => tupI_sq (k3 q hq), by omega, fun a0 L hn hL1 hL2 => ?_⟩
      have x2 : Ext as1 H1 as1 (upd H1 a0 (SetTO X.prog X.w a0 L)) := Ext.new S1 hn
      have S2 : Sim X.K as1 (upd H1 a0 (SetTO X.prog X.w a0 L)) h1 := S1.new hn
      have rL : ∀ q ∈ L, RV X.K as1 (upd H1 a0 (SetTO X.prog X.w a0 L)) (tupM q.2) (.ref q.1) := fun q hq => RV.ext x2 _ _ (k3 q (hL1 q hq))
      have inT : ∀ q ∈ L, q.2 ∈ ts := fun q hq => by rw [← k2]; exact List.mem_map.mpr ⟨q, hL1 q hq, rfl⟩
      have bd : ∀ t ∈ ts, TS.Bd B t := fun t ht i hi => ⟨(hts t ht).2 i hi, hB t ht i hi⟩
      refine ⟨a0, L, d, B, rfl, upd_same, fun q hq => tupI_sq (rL q hq), hd, fun q hq => ⟨(hts _ (inT q hq)).1, bd _ (inT q hq)⟩, fun L' pp pm nd few pw hpn => ?_⟩
      have inT' : ∀ q ∈ L', q.2 ∈ ts := fun q hq => inT q (pm.mem_iff.mp hq)
      have e3 : L'.map (·.2) = sortT (nubT ts) := by
        refine sortT_uniq (perm_mem _ _ nd (nubT_nodup ts) fun t => ?_) ?_
        · rw [nubT_mem]
          constructor
          · intro ht
            obtain ⟨q, hq, rfl⟩ := List.mem_map.mp ht
            exact inT' q hq
          · intro ht
            rw [← k2] at ht
            obtain ⟨q, hq, rfl⟩ := List.mem_map.mp ht
            exact ((pm.map (·.2)).mem_iff).mpr (hL2 q hq)
        · rw [List.pairwise_map]
          refine List.Pairwise.imp_of_mem (fun {q r} hq hr' hle => ?_) pw
          show lexLtI r.2 q.2 = false
          cases hx : lexLtI r.2 q.2 with
          | false => rfl
          | true =>
            have := code_lex ((hts _ (inT' r hr')).1.trans (hts _ (inT' q hq)).1.symm) (bd _ (inT' r hr')) (bd _ (inT' q hq)) hx
            omega
      rw [← e3] at p5
      have rL' : RVs X.K as1 (upd H1 a0 (SetTO X.prog X.w a0 L)) ((L'.map (·.2)).map tupM) (L'.map fun q => V.ref q.1) := of_addr fun q hq => rL q (pm.mem_iff.mp hq)
      exact p5 as1 _ (.ref pp) (x2.trans (Ext.new S2 hpn)) (S2.new hpn) (RFr.new S (x1.trans x2) S2 hpn rL')
end
end MM
set_option Elab.async false
set_option linter.all false
set_option maxRecDepth 100000
/-! M14: the end of a law. -/
namespace MM
open PySem PySem.Spec PyProof.Rows L2 PySem.W
/-- the law's def called on its script -/
theorem law_end {P : Program} {w : World} {K : PySem.W.Frag} {mg mb : Str → Option Value} {k : Nat} {fa a : Addr} {fd : FuncData} {x : Str} {sp : Sp} {s₁ : Shared} {vs : List Value} {ns : List Int}
    (KX : K.In s₁.heap) (hns : s₁.heap.Ns mainGlobals mg) (hb : s₁.heap.Ns builtinsNs mb) (hbb : ∀ x : Str, x ≠ "__name__" → mb x = bootBuiltins x) (hlim : s₁.heap.NoLimit) (hg : s₁.gens = #[])
    (ha : s₁.heap.get? a = some { cls := .type "list", data := .seq vs.toArray }) (hi : IntsAre vs ns) (hl : ns.length ≤ sizeLine) (hr : Room k callerA)
    (F : ∀ base : Heap, K.In base → base.Ns mainGlobals mg → FnG P w K mg base k fa fd [x] sp) (hbind : ∀ (s : Shared) (u : Value), BindsTo s fd ⟨[u], []⟩ [(x, u)])
    (hsp : ∀ H : Hp, Only H → SqL K H a (ns.map V.int) → sp [.ref a] H (fun v _ => v = .bl true) fun _ _ _ => False) :
    codeAny (model P w) callerA (.call (.ref fa) ⟨[.ref a], []⟩) (fun r s' => r = .ok (.ret (.bool true)) ∧ OldK s₁.heap s'.heap ∧ s'.os = s₁.os ∧ AllBare s'.gens) s₁ := by
  -- what may be tracked at the start: the script alone, at a
  have main : ∀ H : Hp, Only H → SqL K H a (ns.map V.int) → HOk P w H s₁.heap → (∀ b, H b ≠ none → b = a ∧ K.lookup a = none) →
      codeAny (model P w) callerA (.call (.ref fa) ⟨[.ref a], []⟩) (fun r s' => r = .ok (.ret (.bool true)) ∧ OldK s₁.heap s'.heap ∧ s'.os = s₁.os ∧ AllBare s'.gens) s₁ := by
    intro H hO hS hok hA
    have dict : ∀ {b : Addr} {o : Obj} {es : Array DictEntry} {ep : Nat}, s₁.heap.get? b = some o → o.data = .dict es ep → H b = none := fun {b o es ep} e d => by
      apply Classical.byContradiction
      intro z
      obtain ⟨rfl, _⟩ := hA b z
      rw [ha] at e
      cases e
      cases (show Data.seq vs.toArray _ = Data.dict es ep from d)
    have ns' : ∀ {b : Addr} {m : Str → Option Value}, s₁.heap.Ns b m → (hidT s₁.heap H).Ns b m := fun {b m} ⟨o, es, ep, e, d, r⟩ => ⟨o, es, ep, hidT_get e (dict e d), d, r⟩
    have hKb : K.In (hidT s₁.heap H) := fun b o e => hidT_get (KX b o e) (by
      apply Classical.byContradiction
      intro z
      obtain ⟨rfl, n⟩ := hA b z
      rw [n] at e
      cases e)
    have hM : Mod K mg (hidT s₁.heap H) := ⟨hKb, ns' hns, ⟨mb, ns' hb, hbb⟩, let ⟨mc, h1, h2⟩ := hlim; ⟨mc, ns' h1, h2⟩⟩
    have e0 : Env0 P w K mg (hidT s₁.heap H) callerA [] s₁ H := ⟨rfl, hM, fun b o e => of_hidT e, Nat.le_of_eq (hidT_size _ _), trivial, fun b hb => absurd (show b ∈ ([] : List Addr) from hb) (by simp), hok, .of_eq hg⟩
    refine codeAny_mono ((F _ hKb (ns' hns)).run callerA [] s₁ H ⟨[.ref a], []⟩ [.ref a] [.ref a] _ _ ⟨hr, rfl⟩ e0 (hbind s₁ (.ref a)) (.cons rfl .nil) (hsp H hO hS)) fun r s' h => ?_
    cases r with
    | error e => obtain ⟨_, _, _, _, _, _, _, _, _, _, _, _, z⟩ := h; exact z.elim
    | ok fl =>
      cases fl with
      | next => exact False.elim h
      | brk => exact False.elim h
      | cont => exact False.elim h
      | ret u =>
        obtain ⟨v, H', os, bare, un, hok', r', q⟩ := h
        cases (show v = .bl true from q)
        cases (show u = Value.bool true from r')
        refine ⟨rfl, OldK.of_keep fun b o e => ?_, os, bare⟩
        cases q : H b with
        | none => exact un.keep b o e q (by intro z; exact absurd (show b ∈ ([] : List Addr) from z) (by simp)) (by simp)
        | some u =>
          rcases hO b with z | ⟨ob, xs, z⟩
          · rw [q] at z; cases z
          · obtain ⟨e1, _⟩ := hok b _ z
            obtain ⟨e2, _⟩ := hok' b _ (un.frzs b ob _ z)
            rw [e] at e1
            cases e1
            exact e2
  have rv := vals_ints hi
  cases hk : K.lookup a with
  | some o =>
    have e := KX a o hk
    rw [ha] at e
    cases e
    exact main (fun _ => none) (fun _ => .inl rfl) (.inr ⟨_, vs.toArray, _, hk, rfl, rfl, rfl, by rw [List.size_toArray, hi.length]; exact hl, by simpa using rv⟩) (fun b u z => by cases (show (none : Option HO) = some u from z)) fun b z => absurd rfl z
  | none =>
    have at_ : ∀ b, b ≠ a → (fun b => if b = a then some (HO.frz { cls := .type "list", data := .seq vs.toArray } (.lst (ns.map V.int))) else none) b = none := fun b n => if_neg n
    refine main (fun b => if b = a then some (.frz { cls := .type "list", data := .seq vs.toArray } (.lst (ns.map V.int))) else none) (fun b => ?_) (.inl (.inr ⟨{ cls := .type "list", data := .seq vs.toArray }, if_pos rfl⟩)) (fun b u z => ?_) fun b z => ?_
    · by_cases hb : b = a
      · exact .inr ⟨_, _, if_pos hb⟩
      · exact .inl (if_neg hb)
    · by_cases hb : b = a
      · have z' := (if_pos hb).symm.trans z
        cases z'
        subst hb
        exact ⟨ha, by rw [List.length_map]; exact hl, vs, _, rv, ha⟩
      · rw [at_ b hb] at z
        cases z
    · refine ⟨?_, hk⟩
      apply Classical.byContradiction
      intro hb
      exact z (at_ b hb)
/-- the goal that k_head leaves: the law's def says True by the evaluator -/
theorem walk_M {l : PySem.W.OpenLaw} {n k i : Nat} {q : Program} {loose : List Str} {XP : (Str → Option Value) → Heap → Prop} {YP : World → Heap → Prop} {d : DefRec} {K : Params → PySem.W.Frag} {x : Str} {L : Option Nat} {T : Nat → Option Fn}
    (hn : l.most = some n) (hn2 : n ≤ sizeLine) (hdf : d.params.defaults = []) (hr : Room k callerA)
    (hY : ∀ (w : World) (h : Heap), YP w h → (K w.params).In h)
    (F : ∀ (w : World) (mg : Str → Option Value) (fa : Addr) (h : Heap), (K w.params).In h → h.Ns mainGlobals mg → mg d.name = some (.ref fa) →
      ∃ fd : FuncData, (∀ (s : Shared) (u : Value), BindsTo s fd ⟨[u], []⟩ [(x, u)]) ∧
        ∀ base : Heap, (K w.params).In base → base.Ns mainGlobals mg → FnG l.prog w (K w.params) mg base k fa fd [x] (spM (K w.params) mg 1 (callK L T k i)))
    (hlaw : ∀ ns : List Int, ns.length ≤ n → (∀ z ∈ ns, Builtin.Int.intBits z ≤ 1048576) → ∃ h', callK L T k i [.scr (ns.map .int)] [] = .ok (.bl true) h') :
    PySem.W.WalkO q loose XP YP l.row.toRowW d [] (fun f vs => PySem.call f vs) := by
  refine Att.attach_callB hn hdf fun w s₀ s₁ mg mb fa o pm cd doc a vs ns G Y ho hd hcd hmg hobj hints hlen hbits hg => ?_
  have KX := hY w _ Y
  obtain ⟨fd, hb, hF⟩ := F w mg fa _ KX G.T.g hmg
  refine law_end KX G.T.g G.T.b G.T.builtins G.T.nolimit hg hobj hints (Nat.le_trans hlen hn2) hr hF hb fun H hO hS => ?_
  obtain ⟨h', e⟩ := hlaw ns hlen hbits
  have rv : RV (K w.params) ⟨[], []⟩ H (.scr (ns.map .int)) (.ref a) := by
    refine ⟨a, ns.map V.int, rfl, ?_, RVs_ints ns⟩
    rcases hS with (z | ⟨o, z⟩) | z
    · rcases hO a with q | ⟨o', xs', q⟩
      · rw [q] at z; cases z
      · rw [q] at z; cases z
    · exact .inl ⟨o, z, fun m => by rcases m with m | m <;> cases m⟩
    · exact .inr z
  refine ⟨rfl, ⟨[], []⟩, [], [.scr (ns.map .int)], ⟨rfl, .nil, fun i c a q => by simp at q, fun a m => by cases m⟩, RVs.one rv, ?_⟩
  rw [e]
  exact fun as' H' b x S r => r
/-- a def of the module -/
def FunP (K : PySem.W.Frag) (mg : Str → Option Value) (x : Str) (st : Stmt) (ps : List Str) : Prop :=
  ∃ f fd, L2.Fun K x x st f fd ∧ mg x = some (.ref f) ∧ PySem.W.keepIn K (.ref f) = true ∧ ∀ (s : Shared) (us : List Value), us.length = ps.length → BindsTo s fd ⟨us, []⟩ (ps.zip us)
theorem FunP.mk' {K : PySem.W.Frag} {mg : Str → Option Value} {h : Heap} {x : Str} {st : Stmt} {ps : List Str} {f : Addr} {oc : Value} {od an : Option Addr} {osl : Array (Option Value)} {kV doc pm cdv ct : Value} (X : K.In h) (G : h.Ns mainGlobals mg)
    (a : PySem.W.nsIn K mainGlobals x = some (some (.ref f))) (l : K.lookup f = some ⟨oc, od, .func (PySem.W.fnOf x x (defArgs st) (defBody st) (defScope st) .none kV doc pm an cdv ct), osl⟩) (c : PySem.W.codeIn K cdv x = true) (k : PySem.W.keepIn K (.ref f) = true)
    (b : ∀ (kV doc pm : Value) (an : Option Addr) (cdv ct : Value) (us : List Value), us.length = ps.length → bindArgs (PySem.W.fnOf x x (defArgs st) (defBody st) (defScope st) .none kV doc pm an cdv ct) ⟨us, []⟩ = pure (ps.zip us)) : FunP K mg x st ps :=
  ⟨f, _, L2.fun_mk l c k, PySem.W.mg_of X G a, k, fun s us hl => .of_eq (b _ _ _ _ _ _ us hl)⟩
theorem FunP.cal {P : Program} {w : World} {K : PySem.W.Frag} {mg : Str → Option Value} {base : Heap} {k i : Nat} {G : Callee} {x : Str} {st : Stmt} {ps : List Str} (F : FunP K mg x st ps) (h : ∀ f fd, L2.Fun K x x st f fd → FnG P w K mg base k f fd ps (spM K mg ps.length (G i)))
    (hn : ∀ ms h, ms.length ≠ ps.length → G i ms h = .bad) : MM.Cal P w K mg base k G i x := by
  obtain ⟨f, fd, F, hm, hk, hb⟩ := F
  exact ⟨f, fd, ps, h f fd F, hm, hk, fun s us _ hl => by rw [List.append_nil] at hl ⊢; exact hb s us hl, hn⟩
theorem GV_int {K : PySem.W.Frag} {mg : Str → Option Value} {h : Heap} {x : Str} {i : Int} {t : Tok} (X : K.In h) (G : h.Ns mainGlobals mg) (a : PySem.W.nsIn K mainGlobals x = some (some (.int i t))) : GV K mg x (.int i) :=
  ⟨.int i, _, PySem.W.mg_of X G a, ⟨t, rfl⟩, fun _ _ => rfl⟩
theorem GV_str {K : PySem.W.Frag} {mg : Str → Option Value} {h : Heap} {x y : Str} {t : Tok} (X : K.In h) (G : h.Ns mainGlobals mg) (a : PySem.W.nsIn K mainGlobals x = some (some (.str y t))) : GV K mg x (.str y) :=
  ⟨.str y, _, PySem.W.mg_of X G a, ⟨t, rfl⟩, fun _ _ => rfl⟩
/-- a tuple of atoms that stands in the written part -/
def atomsOk : List MV → List Value → Bool
  | [], [] => true
  | .int i :: ms, .int j _ :: us => decide (i = j) && atomsOk ms us
  | .str x :: ms, .str y _ :: us => strEq x y && atomsOk ms us
  | .bl x :: ms, .bool y :: us => x == y && atomsOk ms us
  | .non :: ms, .none :: us => atomsOk ms us
  | _, _ => false
theorem atoms_in {K : PySem.W.Frag} : ∀ (ms : List MV) (us : List Value), atomsOk ms us = true → ∃ vs, Vals vs us ∧ ∀ as H, RVs K as H ms vs
  | [], [], _ => ⟨[], .nil, fun _ _ => rfl⟩
  | [], _ :: _, h => by cases h
  | .int i :: ms, us, h => by
    cases us with
    | nil => cases h
    | cons u us =>
      cases u with
      | int j t =>
        have h : (decide (i = j) && atomsOk ms us) = true := h
        rw [Bool.and_eq_true, decide_eq_true_eq] at h
        obtain ⟨vs, h1, h2⟩ := atoms_in ms us h.2
        exact ⟨.int i :: vs, .cons ⟨t, by rw [h.1]⟩ h1, fun as H => ⟨_, _, rfl, rfl, h2 as H⟩⟩
      | _ => cases h
  | .str x :: ms, us, h => by
    cases us with
    | nil => cases h
    | cons u us =>
      cases u with
      | str j t =>
        have h : (strEq x j && atomsOk ms us) = true := h
        rw [Bool.and_eq_true, strEq_iff] at h
        obtain ⟨vs, h1, h2⟩ := atoms_in ms us h.2
        exact ⟨.str x :: vs, .cons ⟨t, by rw [h.1]⟩ h1, fun as H => ⟨_, _, rfl, rfl, h2 as H⟩⟩
      | _ => cases h
  | .bl x :: ms, us, h => by
    cases us with
    | nil => cases h
    | cons u us =>
      cases u with
      | bool j =>
        have h : (x == j && atomsOk ms us) = true := h
        rw [Bool.and_eq_true] at h
        obtain ⟨vs, h1, h2⟩ := atoms_in ms us h.2
        exact ⟨.bl x :: vs, .cons (show Value.bool j = Value.bool x by rw [eq_of_beq h.1]) h1, fun as H => ⟨_, _, rfl, rfl, h2 as H⟩⟩
      | _ => cases h
  | .non :: ms, us, h => by
    cases us with
    | nil => cases h
    | cons u us =>
      cases u with
      | none =>
        obtain ⟨vs, h1, h2⟩ := atoms_in ms us h
        exact ⟨.non :: vs, .cons rfl h1, fun as H => ⟨_, _, rfl, rfl, h2 as H⟩⟩
      | _ => cases h
  | .tup _ :: ms, us, h => by cases us <;> cases h
  | .lst _ :: ms, us, h => by cases us <;> cases h
  | .scr _ :: ms, us, h => by cases us <;> cases h
  | .ref _ :: ms, us, h => by cases us <;> cases h
  | .atm _ :: ms, us, h => by cases us <;> cases h
theorem GV_tup {K : PySem.W.Frag} {mg : Str → Option Value} {h : Heap} {x : Str} {ms : List MV} {p : Addr} {dd : Option Addr} {its : Array Value} {n : Nat} {sl : Array (Option Value)} (X : K.In h) (G : h.Ns mainGlobals mg) (a : PySem.W.nsIn K mainGlobals x = some (some (.ref p)))
    (l : K.lookup p = some ⟨.type "tuple", dd, .seq its n, sl⟩) (hv : atomsOk ms its.toList = true) (hl : its.size ≤ 1000) : GV K mg x (.tup ms) := by
  obtain ⟨vs, h1, h2⟩ := atoms_in (K := K) ms its.toList hv
  exact ⟨.ref p, _, PySem.W.mg_of X G a, rfl, fun as H => ⟨p, vs, rfl, .inr ⟨_, its, n, l, rfl, rfl, by rw [sizeLine_eq]; omega, h1⟩, h2 as H⟩⟩
theorem ErrC_mk {K : PySem.W.Frag} {mg : Str → Option Value} {h : Heap} {x : Str} {C : Addr} {B newId initId : String} {bmB : List Value} (X : K.In h) (G : h.Ns mainGlobals mg) (F : ExcBaseFacts B newId initId bmB) (a : PySem.W.nsIn K mainGlobals x = some (some (.ref C)))
    (q : PySem.W.excIn K C bmB newId = true) (k : PySem.W.keepIn K (.ref C) = true) (s1 : PySem.W.subIn K (.ref C) (.type "BaseException") = some true) (s2 : PySem.W.typeIn K (.ref C) = some (.type "type")) : ErrC K mg x :=
  ⟨C, B, newId, initId, bmB, F, q, PySem.W.mg_of X G a, k, s1, s2⟩
end MM
set_option Elab.async false
set_option linter.all false
set_option maxRecDepth 100000
/-! P0: the evaluator on values, as rewriting rules. -/
namespace MM
open PySem PySem.Spec PyProof.Rows L2
@[simp] theorem bv_add (a b : Int) (h : MH) : binV .add (.int a) (.int b) h = .ok (.int (a + b)) h := rfl
@[simp] theorem bv_sub (a b : Int) (h : MH) : binV .sub (.int a) (.int b) h = .ok (.int (a - b)) h := rfl
@[simp] theorem bv_mul (a b : Int) (h : MH) : binV .mul (.int a) (.int b) h = okIf (mulOk a b) (.int (a * b)) h := rfl
@[simp] theorem bv_div (a b : Int) (h : MH) : binV .fdiv (.int a) (.int b) h = okIf (divOk a b) (.int (a / b)) h := rfl
@[simp] theorem bv_mod (a b : Int) (h : MH) : binV .mod (.int a) (.int b) h = okIf (decide (0 < b)) (.int (a % b)) h := rfl
@[simp] theorem bv_pow (a b : Int) (h : MH) : binV .pow (.int a) (.int b) h = okIf (powOk a b) (.int (a ^ b.toNat)) h := rfl
@[simp] theorem bv_cat (a b : List MV) (h : MH) : binV .add (.tup a) (.tup b) h = okIf (lenOk (a.length + b.length)) (.tup (a ++ b)) h := rfl
@[simp] theorem bv_rep (a : List MV) (k : Int) (h : MH) : binV .mul (.tup a) (.int k) h = okIf (!a.isEmpty && Nat.ble a.length 1000 && decide (1 ≤ k) && decide (k ≤ 1000)) (.tup (List.replicate k.toNat a).flatten) h := rfl
@[simp] theorem cv_lt (a b : Int) (h : MH) : cmpV .lt (.int a) (.int b) h = .ok (.bl (decide (a < b))) h := rfl
@[simp] theorem cv_le (a b : Int) (h : MH) : cmpV .le (.int a) (.int b) h = .ok (.bl (decide (a ≤ b))) h := rfl
@[simp] theorem cv_gt (a b : Int) (h : MH) : cmpV .gt (.int a) (.int b) h = .ok (.bl (decide (b < a))) h := rfl
@[simp] theorem cv_ge (a b : Int) (h : MH) : cmpV .ge (.int a) (.int b) h = .ok (.bl (decide (b ≤ a))) h := rfl
@[simp] theorem cv_eqI (a b : Int) (h : MH) : cmpV .eq (.int a) (.int b) h = .ok (.bl (decide (a = b))) h := rfl
@[simp] theorem cv_neI (a b : Int) (h : MH) : cmpV .ne (.int a) (.int b) h = .ok (.bl (!decide (a = b))) h := rfl
theorem cv_eq (x y : MV) (h : MH) : cmpV .eq x y h = okIf (shp 60 (derf h x) && shp 60 (derf h y)) (.bl (eqv (derf h x) (derf h y))) h := rfl
theorem cv_ne (x y : MV) (h : MH) : cmpV .ne x y h = okIf (shp 60 (derf h x) && shp 60 (derf h y)) (.bl (!eqv (derf h x) (derf h y))) h := rfl
@[simp] theorem tr_bl (b : Bool) (h : MH) : truth h (.bl b) = some b := rfl
@[simp] theorem tr_int (i : Int) (h : MH) : truth h (.int i) = some (decide (i ≠ 0)) := rfl
@[simp] theorem tr_non (h : MH) : truth h .non = some false := rfl
@[simp] theorem tr_tup (xs : List MV) (h : MH) : truth h (.tup xs) = some (!xs.isEmpty) := rfl
@[simp] theorem tr_lst (xs : List MV) (h : MH) : truth h (.lst xs) = some (!xs.isEmpty) := rfl
@[simp] theorem sq_tup (xs : List MV) (h : MH) : seqOf h (.tup xs) = some xs := rfl
@[simp] theorem sq_lst (xs : List MV) (h : MH) : seqOf h (.lst xs) = some xs := rfl
@[simp] theorem sq_scr (xs : List MV) (h : MH) : seqOf h (.scr xs) = some xs := rfl
@[simp] theorem so_tup (xs : List MV) (h : MH) : srcOf h (.tup xs) = some ⟨xs, none⟩ := rfl
@[simp] theorem so_lst (xs : List MV) (h : MH) : srcOf h (.lst xs) = some ⟨xs, none⟩ := rfl
@[simp] theorem so_scr (xs : List MV) (h : MH) : srcOf h (.scr xs) = some ⟨xs, none⟩ := rfl
@[simp] theorem st_none (xs : List MV) (h : MH) : (Src.mk xs none).stays h = true := rfl
theorem st_fun (xs : List MV) : (Src.mk xs none).stays = fun _ => true := rfl
@[simp] theorem df_tup (xs : List MV) (h : MH) : derf h (.tup xs) = .tup xs := rfl
@[simp] theorem df_lst (xs : List MV) (h : MH) : derf h (.lst xs) = .lst xs := rfl
@[simp] theorem df_int (i : Int) (h : MH) : derf h (.int i) = .int i := rfl
@[simp] theorem df_bl (i : Bool) (h : MH) : derf h (.bl i) = .bl i := rfl
@[simp] theorem df_non (h : MH) : derf h .non = .non := rfl
@[simp] theorem df_str (x : Str) (h : MH) : derf h (.str x) = .str x := rfl
@[simp] theorem ix_tup (xs : List MV) (i : Int) (h : MH) : ixV (.tup xs) (.int i) h = match atI xs i with | some v => .ok v h | none => .bad := rfl
@[simp] theorem ix_lst (xs : List MV) (i : Int) (h : MH) : ixV (.lst xs) (.int i) h = match atI xs i with | some v => .ok v h | none => .bad := rfl
@[simp] theorem at_0 {α : Type} (x : α) (xs : List α) : atI (x :: xs) 0 = some x := by
  have := atI_nat (xs := x :: xs) (j := 0) (v := x) rfl
  simpa using this
theorem at_n {α : Type} (xs : List α) (n : Nat) (v : α) (h : xs[n]? = some v) : atI xs (n : Int) = some v := atI_nat h
@[simp] theorem at_1 {α : Type} (x y : α) (xs : List α) : atI (x :: y :: xs) 1 = some y := at_n _ 1 _ rfl
@[simp] theorem at_2 {α : Type} (x y z : α) (xs : List α) : atI (x :: y :: z :: xs) 2 = some z := at_n _ 2 _ rfl
@[simp] theorem bi_len_t (xs : List MV) (h : MH) : biV .len [.tup xs] h = .ok (.int xs.length) h := rfl
@[simp] theorem bi_len_l (xs : List MV) (h : MH) : biV .len [.lst xs] h = .ok (.int xs.length) h := rfl
@[simp] theorem bi_abs (i : Int) (h : MH) : biV .abs [.int i] h = .ok (.int (if i < 0 then -i else i)) h := rfl
@[simp] theorem bi_max (i j : Int) (h : MH) : biV .max2 [.int i, .int j] h = .ok (.int (if j > i then j else i)) h := rfl
@[simp] theorem bi_min (i j : Int) (h : MH) : biV .min2 [.int i, .int j] h = .ok (.int (if j < i then j else i)) h := rfl
@[simp] theorem bi_int (i : Int) (h : MH) : biV .toInt [.int i] h = .ok (.int i) h := rfl
@[simp] theorem bi_intb (b : Bool) (h : MH) : biV .toInt [.bl b] h = .ok (.int (if b then 1 else 0)) h := rfl
@[simp] theorem bi_tup_l (xs : List MV) (h : MH) : biV .tup [.lst xs] h = .ok (.tup xs) h := rfl
@[simp] theorem bi_tup_t (xs : List MV) (h : MH) : biV .tup [.tup xs] h = .ok (.tup xs) h := rfl
@[simp] theorem ints_map (ns : List Int) : intsOf (ns.map MV.int) = some ns := by
  induction ns with
  | nil => rfl
  | cons n r ih => show (intsOf (r.map .int)).map (n :: ·) = _; rw [ih]; rfl
@[simp] theorem bls_map (ns : List Bool) : blsOf (ns.map MV.bl) = some ns := by
  induction ns with
  | nil => rfl
  | cons n r ih => show (blsOf (r.map .bl)).map (n :: ·) = _; rw [ih]; rfl
@[simp] theorem bi_sum_t (ns : List Int) (h : MH) : biV .sum [.tup (ns.map MV.int)] h = .ok (.int ns.sum) h := by
  show (match (some (ns.map MV.int)).bind intsOf with | some ns => Res.ok (MV.int ns.sum) h | none => .bad) = _
  rw [Option.bind_some, ints_map]
@[simp] theorem bi_sum_l (ns : List Int) (h : MH) : biV .sum [.lst (ns.map MV.int)] h = .ok (.int ns.sum) h := by
  show (match (some (ns.map MV.int)).bind intsOf with | some ns => Res.ok (MV.int ns.sum) h | none => .bad) = _
  rw [Option.bind_some, ints_map]
@[simp] theorem bi_all_l (ns : List Bool) (h : MH) : biV .all [.lst (ns.map MV.bl)] h = .ok (.bl (ns.all id)) h := by
  show (match (some (ns.map MV.bl)).bind blsOf with | some bs => Res.ok (MV.bl (bs.all id)) h | none => .bad) = _
  rw [Option.bind_some, bls_map]
@[simp] theorem bi_any_l (ns : List Bool) (h : MH) : biV .any [.lst (ns.map MV.bl)] h = .ok (.bl (ns.any id)) h := by
  show (match (some (ns.map MV.bl)).bind blsOf with | some bs => Res.ok (MV.bl (bs.any id)) h | none => .bad) = _
  rw [Option.bind_some, bls_map]
@[simp] theorem tyb_int_int : (TyN.int == TyN.int) = true := rfl
@[simp] theorem tyb_int_bool : (TyN.int == TyN.bool) = false := rfl
@[simp] theorem tyb_int_tuple : (TyN.int == TyN.tuple) = false := rfl
@[simp] theorem tyb_int_str : (TyN.int == TyN.str) = false := rfl
@[simp] theorem tyb_int_list : (TyN.int == TyN.list) = false := rfl
@[simp] theorem tyb_bool_int : (TyN.bool == TyN.int) = false := rfl
@[simp] theorem tyb_bool_bool : (TyN.bool == TyN.bool) = true := rfl
@[simp] theorem tyb_bool_tuple : (TyN.bool == TyN.tuple) = false := rfl
@[simp] theorem tyb_bool_str : (TyN.bool == TyN.str) = false := rfl
@[simp] theorem tyb_bool_list : (TyN.bool == TyN.list) = false := rfl
@[simp] theorem tyb_tuple_int : (TyN.tuple == TyN.int) = false := rfl
@[simp] theorem tyb_tuple_bool : (TyN.tuple == TyN.bool) = false := rfl
@[simp] theorem tyb_tuple_tuple : (TyN.tuple == TyN.tuple) = true := rfl
@[simp] theorem tyb_tuple_str : (TyN.tuple == TyN.str) = false := rfl
@[simp] theorem tyb_tuple_list : (TyN.tuple == TyN.list) = false := rfl
@[simp] theorem tyb_str_int : (TyN.str == TyN.int) = false := rfl
@[simp] theorem tyb_str_bool : (TyN.str == TyN.bool) = false := rfl
@[simp] theorem tyb_str_tuple : (TyN.str == TyN.tuple) = false := rfl
@[simp] theorem tyb_str_str : (TyN.str == TyN.str) = true := rfl
@[simp] theorem tyb_str_list : (TyN.str == TyN.list) = false := rfl
@[simp] theorem tyb_list_int : (TyN.list == TyN.int) = false := rfl
@[simp] theorem tyb_list_bool : (TyN.list == TyN.bool) = false := rfl
@[simp] theorem tyb_list_tuple : (TyN.list == TyN.tuple) = false := rfl
@[simp] theorem tyb_list_str : (TyN.list == TyN.str) = false := rfl
@[simp] theorem tyb_list_list : (TyN.list == TyN.list) = true := rfl
@[simp] theorem ty_int (t : TyN) (i : Int) (h : MH) : tyOf t (.int i) h = some (t == .int) := rfl
@[simp] theorem ty_bl (t : TyN) (i : Bool) (h : MH) : tyOf t (.bl i) h = some (t == .bool || t == .int) := rfl
@[simp] theorem ty_tup (t : TyN) (i : List MV) (h : MH) : tyOf t (.tup i) h = some (t == .tuple) := rfl
@[simp] theorem ty_lst (t : TyN) (i : List MV) (h : MH) : tyOf t (.lst i) h = some (t == .list) := rfl
@[simp] theorem ty_str (t : TyN) (i : Str) (h : MH) : tyOf t (.str i) h = some (t == .str) := rfl
@[simp] theorem ty_non (t : TyN) (h : MH) : tyOf t .non h = some false := rfl
@[simp] theorem len_ok {n : Nat} (h : n ≤ 16000000) : lenOk n = true := Nat.ble_eq_true_of_le h
@[simp] theorem okIf_false {α : Type} (a : α) (h : MH) : (okIf false a h : Res α) = .bad := rfl
/-- a loop over nothing, over one more -/
@[simp] theorem forL_nil (tg b stay e h) : forL tg b stay [] e h = .ok (.nx, e) h := rfl
theorem forL_cons (tg : MV → MEnv → MH → Res MEnv) (b : MEnv → MH → Res (Fl × MEnv)) (stay : MH → Bool) (x xs e h) : forL tg b stay (x :: xs) e h = (tg x e h).nox.bind fun e1 h1 => (b e1 h1).bind fun fe h2 => match fe.1 with
    | .nx => if stay h2 then forL tg b stay xs fe.2 h2 else .bad
    | .ct => if stay h2 then forL tg b stay xs fe.2 h2 else .bad
    | .bk => .ok (.nx, fe.2) h2
    | .rt v => .ok (.rt v, fe.2) h2 := rfl
@[simp] theorem compL2_nil (tg c inner e stay h) : compL2 tg c inner e stay [] h = .ok [] h := rfl
theorem compL2_cons (tg : MV → MEnv → MH → Res MEnv) (c : MEnv → MH → Res Bool) (inner : MEnv → MH → Res (List MV)) (e : MEnv) (stay : MH → Bool) (x xs h) : compL2 tg c inner e stay (x :: xs) h = (tg x e h).bind fun e1 h1 => (c e1 h1).bind fun b h2 =>
    if b then (inner e1 h2).bind fun ws h3 => if stay h3 then (compL2 tg c inner e stay xs h3).bind fun vs h4 => .ok (ws ++ vs) h4 else .bad
    else if stay h2 then compL2 tg c inner e stay xs h2 else .bad := rfl
/-- a comprehension whose turns leave the cells alone -/
theorem compL2_map {tg : MV → MEnv → MH → Res MEnv} {c : MEnv → MH → Res Bool} {inner : MEnv → MH → Res (List MV)} {e : MEnv} {h : MH} (p : MV → Bool) (f : MV → List MV) : ∀ xs : List MV,
    (∀ x ∈ xs, ((tg x e h).bind fun e1 h1 => (c e1 h1).bind fun b h2 => if b then inner e1 h2 else .ok [] h2) = .ok (if p x then f x else []) h ∧ ((tg x e h).bind fun e1 h1 => c e1 h1) = .ok (p x) h) →
    compL2 tg c inner e (fun _ => true) xs h = .ok ((xs.filter p).map f).flatten h
  | [], _ => rfl
  | x :: xs, hx => by
    have h1 := hx x List.mem_cons_self
    have ih := compL2_map p f xs fun y hy => hx y (List.mem_cons_of_mem _ hy)
    rw [compL2_cons]
    obtain ⟨h1, h2⟩ := h1
    cases q : tg x e h with
    | bad => rw [q] at h2; cases h2
    | exc _ _ _ => rw [q] at h2; cases h2
    | ok e1 h1' =>
      simp only [q, Res.bind_ok] at h1 h2 ⊢
      cases q2 : c e1 h1' with
      | bad => rw [q2] at h2; cases h2
      | exc _ _ _ => rw [q2] at h2; cases h2
      | ok b h3 =>
        rw [q2] at h2
        cases h2
        simp only [q2, Res.bind_ok] at h1 ⊢
        cases hp : p x with
        | false => simp [hp, ih]
        | true =>
          simp only [hp, if_true] at h1 ⊢
          cases q3 : inner e1 h with
          | bad => rw [q3] at h1; cases h1
          | exc _ _ _ => rw [q3] at h1; cases h1
          | ok ws h4 =>
            rw [q3] at h1
            cases h1
            simp [ih, hp]
end MM
set_option Elab.async false
set_option linter.all false
set_option maxRecDepth 100000
set_option maxHeartbeats 0
namespace G
open PySem PySem.Spec PyProof.Rows L2 MM
def g_ZERO : MV := (.tup [(.int 0), (.int 1)])
def g_ONE : MV := (.tup [(.int 1), (.int 1)])
def g_CLAIMS : MV := (.int 8)
def g_CLAIM : MV := (.int 1000000)
def g_SEATS : MV := (.int 400)
def b_is_whole : List MS := [(.ret (.and_ (.cons (.isi .int (.var 0)) (.cons (.not_ (.isi .bool (.var 0))) (.cons (.cmp2 .le .le (.var 1) (.var 0) (.var 2)) .nil)))))]
def fn_is_whole : Fn := ⟨3, 3, false, b_is_whole⟩
def b_is_integer : List MS := [(.ret (.and_ (.cons (.isi .int (.var 0)) (.cons (.not_ (.isi .bool (.var 0))) .nil))))]
def fn_is_integer : Fn := ⟨1, 1, false, b_is_integer⟩
def b_is_tuple_of : List MS := [(.ret (.and_ (.cons (.isi .tuple (.var 0)) (.cons (.cmp2 .le .le (.var 1) (.bi .len (.cons (.var 0) .nil)) (.var 2)) .nil))))]
def fn_is_tuple_of : Fn := ⟨3, 3, false, b_is_tuple_of⟩
def b_common_divisor : List MS := [(.asg (.tup (.cons (.nm 0) (.cons (.nm 1) .nil))) (.tup (.cons (.bi .abs (.cons (.var 0) .nil)) (.cons (.bi .abs (.cons (.var 1) .nil)) .nil)))),
    (.whl ((.val (.cmp .ne (.var 1) (.int 0)))) [(.asg (.tup (.cons (.nm 0) (.cons (.nm 1) .nil))) (.tup (.cons (.var 1) (.cons (.bin .mod (.var 0) (.var 1)) .nil))))]),
    (.ret (.var 0))]
def fn_common_divisor : Fn := ⟨2, 2, false, b_common_divisor⟩
def b_fits_ratio : List MS := [(.ifS (.any (.cons (.not_ (.val (.call 2 (.cons (.var 0) (.cons (.int 2) (.cons (.int 2) .nil)))))) (.cons (.not_ (.val (.call 1 (.cons (.ix (.var 0) (.int 0)) .nil)))) (.cons (.not_ (.val (.call 1 (.cons (.ix (.var 0) (.int 1)) .nil)))) .nil)))) [(.ret (.bl false))] []),
    (.ret (.and_ (.cons (.cmp .ge (.ix (.var 0) (.int 1)) (.int 1)) (.cons (.cmp .eq (.call 3 (.cons (.ix (.var 0) (.int 0)) (.cons (.ix (.var 0) (.int 1)) .nil))) (.int 1)) .nil))))]
def fn_fits_ratio : Fn := ⟨1, 1, false, b_fits_ratio⟩
def b_made : List MS := [(.ifS (.val (.cmp .lt (.var 1) (.int 0))) [(.asg (.tup (.cons (.nm 0) (.cons (.nm 1) .nil))) (.tup (.cons (.neg (.var 0)) (.cons (.neg (.var 1)) .nil))))] []),
    (.asg (.nm 2) (.call 3 (.cons (.var 0) (.cons (.var 1) .nil)))),
    (.ret (.tup (.cons (.bin .fdiv (.var 0) (.var 2)) (.cons (.bin .fdiv (.var 1) (.var 2)) .nil))))]
def fn_made : Fn := ⟨2, 3, false, b_made⟩
def b_compared : List MS := [(.asg (.tup (.cons (.nm 2) (.cons (.nm 3) .nil))) (.tup (.cons (.bin .mul (.ix (.var 0) (.int 0)) (.ix (.var 1) (.int 1))) (.cons (.bin .mul (.ix (.var 1) (.int 0)) (.ix (.var 0) (.int 1))) .nil)))),
    (.ret (.ite (.val (.cmp .lt (.var 2) (.var 3))) (.neg (.int 1)) (.ite (.val (.cmp .lt (.var 3) (.var 2))) (.int 1) (.int 0))))]
def fn_compared : Fn := ⟨2, 4, false, b_compared⟩
def b_fits_post : List MS := [(.ifS (.any (.cons (.val (.cmp .eq (.var 0) (.tup (.cons (.str "middle") .nil)))) (.cons (.val (.cmp .eq (.var 0) (.tup (.cons (.str "root") .nil)))) .nil))) [(.ret (.call 2 (.cons (.var 0) (.cons (.int 1) (.cons (.int 1) .nil)))))] []),
    (.ifS (.any (.cons (.not_ (.val (.call 2 (.cons (.var 0) (.cons (.int 2) (.cons (.int 2) .nil)))))) (.cons (.not_ (.val (.isi .str (.ix (.var 0) (.int 0))))) (.cons (.val (.cmp .ne (.ix (.var 0) (.int 0)) (.str "plus"))) (.cons (.not_ (.val (.call 4 (.cons (.ix (.var 0) (.int 1)) .nil)))) .nil))))) [(.ret (.bl false))] []),
    (.ret (.and_ (.cons (.cmp .le (.call 10 (.cons (.glb "ZERO" g_ZERO) (.cons (.ix (.var 0) (.int 1)) .nil))) (.int 0)) (.cons (.cmp .le (.call 10 (.cons (.ix (.var 0) (.int 1)) (.cons (.glb "ONE" g_ONE) .nil))) (.int 0)) .nil))))]
def fn_fits_post : Fn := ⟨1, 1, false, b_fits_post⟩
def b__law_cup : List MS := [(.asg (.nm 1) (.bi .abs (.cons (.ix (.fr (.cat (.fr (.toList (.var 0))) (.fr (.disp (.cons (.int 0) .nil))))) (.int 0)) .nil))),
    (.ret (.box (.disp (.cons (.ite (.val (.cmp .ge (.var 1) (.bin .pow (.int 10) (.int 18)))) (.bin .fdiv (.var 1) (.int 103)) (.int 0)) (.cons (.bin .add (.bin .mod (.bi .toInt (.cons (.bin .add (.bin .mul (.var 1) (.int 331)) (.int 3407)) .nil)) (.int 2077503041)) (.int 199)) .nil)))))]
def fn__law_cup : Fn := ⟨1, 2, false, b__law_cup⟩
def b__law_roll : List MS := [(.ifS (.val (.cmp .gt (.ix (.var 0) (.int 0)) (.int 0))) [(.asg (.nm 2) (.bin .mod (.bi .toInt (.cons (.ix (.var 0) (.int 0)) .nil)) (.var 1))),
    (.asg (.ix (.var 0) (.int 0)) (.bin .fdiv (.ix (.var 0) (.int 0)) (.var 1))),
    (.ret (.var 2))] []),
    (.asg (.ix (.var 0) (.int 1)) (.bin .mod (.bi .toInt (.cons (.bin .add (.bin .mul (.ix (.var 0) (.int 1)) (.int 31123)) (.int 8081)) .nil)) (.int 2147483323))),
    (.asg (.nm 3) (.bin .mod (.bi .toInt (.cons (.bin .mul (.ix (.var 0) (.int 1)) (.bin .add (.ix (.var 0) (.int 1)) (.int 271))) .nil)) (.int 2147483587))),
    (.ret (.bin .mod (.bi .toInt (.cons (.bin .fdiv (.var 3) (.int 863)) .nil)) (.var 1)))]
def fn__law_roll : Fn := ⟨2, 4, false, b__law_roll⟩
def b__law_some : List MS := [(.ret (.ix (.var 1) (.call 41 (.cons (.var 0) (.cons (.bi .len (.cons (.var 1) .nil)) .nil)))))]
def fn__law_some : Fn := ⟨2, 2, false, b__law_some⟩
def b_square_of : List MS := [(.ifS (.val (.cmp .lt (.var 1) (.int 0))) [(.ret (.glb "ZERO" g_ZERO))] []),
    (.ifS (.val (.cmp .eq (.ix (.var 0) (.int 0)) (.str "root"))) [(.ret (.tup (.cons (.bin .mul (.var 1) (.bin .add (.var 1) (.int 1))) (.cons (.int 1) .nil))))] []),
    (.ifS (.val (.cmp .eq (.ix (.var 0) (.int 0)) (.str "middle"))) [(.ret (.call 5 (.cons (.bin .mul (.bin .mul (.int 4) (.bin .pow (.var 1) (.int 2))) (.bin .pow (.bin .add (.var 1) (.int 1)) (.int 2))) (.cons (.bin .pow (.bin .add (.bin .mul (.int 2) (.var 1)) (.int 1)) (.int 2)) .nil))))] []),
    (.asg (.tup (.cons (.nm 2) (.cons (.nm 3) .nil))) (.ix (.var 0) (.int 1))),
    (.ret (.call 5 (.cons (.bin .pow (.bin .add (.bin .mul (.var 1) (.var 3)) (.var 2)) (.int 2)) (.cons (.bin .pow (.var 3) (.int 2)) .nil))))]
def fn_square_of : Fn := ⟨2, 4, false, b_square_of⟩
def b_need_number : List MS := [(.ifS (.not_ (.val (.call 0 (.cons (.var 0) (.cons (.var 1) (.cons (.var 2) .nil)))))) [(.raise "InvalidNumber" "not a number within the bounds")] [])]
def fn_need_number : Fn := ⟨3, 3, false, b_need_number⟩
def c0_fits_claims : MF := .comp [1] (.nm 1) (.seq (.var 0)) .tt (.call 0 (.cons (.var 1) (.cons (.int 0) (.cons (.glb "CLAIM" g_CLAIM) .nil))))
def b_fits_claims : List MS := [(.ret (.and_ (.cons (.call 2 (.cons (.var 0) (.cons (.int 1) (.cons (.glb "CLAIMS" g_CLAIMS) .nil)))) (.cons (.bi .all (.cons (.fr c0_fits_claims) .nil)) .nil))))]
def fn_fits_claims : Fn := ⟨1, 2, false, b_fits_claims⟩
def b_sign_between : List MS := [(.asg (.tup (.cons (.nm 5) (.cons (.nm 6) .nil))) (.tup (.cons (.call 65 (.cons (.var 0) (.cons (.var 2) .nil))) (.cons (.call 65 (.cons (.var 0) (.cons (.var 4) .nil))) .nil)))),
    (.ifS (.any (.cons (.val (.cmp .eq (.var 5) (.glb "ZERO" g_ZERO))) (.cons (.val (.cmp .eq (.var 6) (.glb "ZERO" g_ZERO))) .nil))) [(.ret (.bin .sub (.bi .toInt (.cons (.cmp .eq (.var 5) (.glb "ZERO" g_ZERO)) .nil)) (.bi .toInt (.cons (.cmp .eq (.var 6) (.glb "ZERO" g_ZERO)) .nil))))] []),
    (.ret (.call 10 (.cons (.tup (.cons (.bin .mul (.bin .pow (.var 1) (.int 2)) (.ix (.var 5) (.int 1))) (.cons (.ix (.var 5) (.int 0)) .nil))) (.cons (.tup (.cons (.bin .mul (.bin .pow (.var 3) (.int 2)) (.ix (.var 6) (.int 1))) (.cons (.ix (.var 6) (.int 0)) .nil))) .nil))))]
def fn_sign_between : Fn := ⟨5, 7, false, b_sign_between⟩
def b_greatest_next : List MS := [(.asg (.nm 4) .non),
    (.forS (.tup (.cons (.nm 5) (.cons (.nm 6) .nil))) (.enum (.var 0)) [(.ifS (.all (.cons (.val (.cmp .gt (.var 6) (.int 0))) (.cons (.val (.cmp .lt (.ix (.var 3) (.var 5)) (.ix (.ix (.var 2) (.var 5)) (.int 1)))) .nil))) [(.ifS (.any (.cons (.val (.isN (.var 4))) (.cons (.val (.cmp .gt (.call 68 (.cons (.var 1) (.cons (.var 6) (.cons (.ix (.var 3) (.var 5)) (.cons (.ix (.var 0) (.var 4)) (.cons (.ix (.var 3) (.var 4)) .nil)))))) (.int 0))) .nil))) [(.asg (.nm 4) (.var 5))] [])] [])]),
    (.ret (.var 4))]
def fn_greatest_next : Fn := ⟨4, 7, false, b_greatest_next⟩
def b_least_given : List MS := [(.asg (.nm 4) .non),
    (.forS (.tup (.cons (.nm 5) (.cons (.nm 6) .nil))) (.enum (.var 0)) [(.ifS (.all (.cons (.val (.cmp .gt (.var 6) (.int 0))) (.cons (.val (.cmp .gt (.ix (.var 3) (.var 5)) (.ix (.ix (.var 2) (.var 5)) (.int 0)))) .nil))) [(.ifS (.any (.cons (.val (.isN (.var 4))) (.cons (.val (.cmp .lt (.call 68 (.cons (.var 1) (.cons (.var 6) (.cons (.bin .sub (.ix (.var 3) (.var 5)) (.int 1)) (.cons (.ix (.var 0) (.var 4)) (.cons (.bin .sub (.ix (.var 3) (.var 4)) (.int 1)) .nil)))))) (.int 0))) .nil))) [(.asg (.nm 4) (.var 5))] [])] [])]),
    (.ret (.var 4))]
def fn_least_given : Fn := ⟨4, 7, false, b_least_given⟩
def b_with_more : List MS := [(.ifS (.val (.cmp .eq (.var 2) (.int 0))) [(.ret (.fr (.disp (.cons (.var 0) .nil))))] []),
    (.ifS (.val (.cmp .gt (.var 2) (.bi .len (.cons (.var 1) .nil)))) [(.ret (.fr (.disp .nil)))] []),
    (.asg (.nm 3) (.ix (.var 1) (.int 0))),
    (.asg (.nm 4) (.bin .add (.bin .add (.sl (.var 0) .none (.some (.var 3))) (.tup (.cons (.bin .add (.ix (.var 0) (.var 3)) (.int 1)) .nil))) (.sl (.var 0) (.some (.bin .add (.var 3) (.int 1))) .none))),
    (.ret (.fr (.cat (.call 71 (.cons (.var 4) (.cons (.fr (.cut (.var 1) (.some (.int 1)) .none)) (.cons (.bin .sub (.var 2) (.int 1)) .nil)))) (.call 71 (.cons (.var 0) (.cons (.fr (.cut (.var 1) (.some (.int 1)) .none)) (.cons (.var 2) .nil)))))))]
def fn_with_more : Fn := ⟨3, 5, false, b_with_more⟩
def b_one_in : List MS := [(.asg (.nm 4) (.box (.comp [7] (.nm 7) (.seq (.var 2)) .tt (.ix (.var 7) (.int 0))))),
    (.ifS (.val (.cmp .gt (.bi .sum (.cons (.var 4) .nil)) (.var 3))) [(.ret .non)] []),
    (.forS (.nm 5) (.range1 (.bin .sub (.var 3) (.bi .sum (.cons (.var 4) .nil)))) [(.asg (.nm 6) (.call 69 (.cons (.var 0) (.cons (.var 1) (.cons (.var 2) (.cons (.var 4) .nil)))))),
    (.ifS (.val (.isN (.var 6))) [(.ret .non)] []),
    (.augIx (.var 4) (.var 6) .add (.int 1))]),
    (.ret (.bi .tup (.cons (.var 4) .nil)))]
def fn_one_in : Fn := ⟨4, 8, true, b_one_in⟩
def b0_rows_in : List MS := [(.ifS (.all (.cons (.val (.cmp .gt (.var 11) (.int 0))) (.cons (.val (.cmp .gt (.ix (.var 4) (.var 10)) (.ix (.ix (.var 2) (.var 10)) (.int 0)))) (.cons (.val (.cmp .eq (.call 68 (.cons (.var 1) (.cons (.var 11) (.cons (.bin .sub (.ix (.var 4) (.var 10)) (.int 1)) (.cons (.var 6) (.cons (.var 7) .nil)))))) (.int 0))) .nil)))) [(.expr (.append (.var 8) (.var 10)))] [(.ifS (.all (.cons (.val (.cmp .gt (.var 11) (.int 0))) (.cons (.val (.cmp .lt (.ix (.var 4) (.var 10)) (.ix (.ix (.var 2) (.var 10)) (.int 1)))) (.cons (.val (.cmp .eq (.call 68 (.cons (.var 1) (.cons (.var 11) (.cons (.ix (.var 4) (.var 10)) (.cons (.var 6) (.cons (.var 7) .nil)))))) (.int 0))) .nil)))) [(.expr (.append (.var 9) (.var 10)))] [])])]
def l0_rows_in : MS := .forS (.tup (.cons (.nm 10) (.cons (.nm 11) .nil))) (.enum (.var 0)) b0_rows_in
def c0_rows_in : MF := .comp [10, 13] (.tup (.cons (.nm 10) (.cons (.nm 13) .nil))) (.enum (.var 4)) .tt (.ite (.val (.cmp .isIn (.var 10) (.var 8))) (.bin .sub (.var 13) (.int 1)) (.var 13))
def b_rows_in : List MS := [(.asg (.nm 4) (.call 72 (.cons (.var 0) (.cons (.var 1) (.cons (.var 2) (.cons (.var 3) .nil)))))),
    (.asg (.nm 5) (.ite (.val (.notN (.var 4))) (.call 70 (.cons (.var 0) (.cons (.var 1) (.cons (.var 2) (.cons (.var 4) .nil))))) .non)),
    (.ifS (.val (.isN (.var 5))) [(.ret (.ite (.val (.notN (.var 4))) (.fr (.disp (.cons (.var 4) .nil))) (.fr (.disp .nil))))] []),
    (.asg (.tup (.cons (.nm 6) (.cons (.nm 7) .nil))) (.tup (.cons (.ix (.var 0) (.var 5)) (.cons (.bin .sub (.ix (.var 4) (.var 5)) (.int 1)) .nil)))),
    (.asg (.tup (.cons (.nm 8) (.cons (.nm 9) .nil))) (.tup (.cons (.box (.disp .nil)) (.cons (.box (.disp .nil)) .nil)))),
    l0_rows_in,
    (.asg (.nm 12) (.bi .tup (.cons (.fr c0_rows_in) .nil))),
    (.ret (.fr (.sorted (.call 71 (.cons (.var 12) (.cons (.fr (.sorted (.fr (.cat (.var 8) (.var 9))))) (.cons (.bi .len (.cons (.var 8) .nil)) .nil)))))))]
def fn_rows_in : Fn := ⟨4, 14, true, b_rows_in⟩
def b_need_claims : List MS := [(.ifS (.not_ (.val (.call 67 (.cons (.var 0) .nil)))) [(.raise "InvalidClaims" "not claims")] [])]
def fn_need_claims : Fn := ⟨1, 1, false, b_need_claims⟩
def b_need_house : List MS := [(.expr (.call 66 (.cons (.var 0) (.cons (.int 0) (.cons (.glb "SEATS" g_SEATS) .nil)))))]
def fn_need_house : Fn := ⟨1, 1, false, b_need_house⟩
def c0_quotas_in : MF := .comp [3] (.nm 3) (.seq (.var 0)) .tt (.call 5 (.cons (.bin .mul (.var 3) (.var 1)) (.cons (.bi .max2 (.cons (.int 1) (.cons (.var 2) .nil))) .nil)))
def b_quotas_in : List MS := [(.asg (.nm 2) (.bi .sum (.cons (.var 0) .nil))),
    (.ifS (.all (.cons (.val (.cmp .eq (.var 2) (.int 0))) (.cons (.val (.cmp .gt (.var 1) (.int 0))) .nil))) [(.raise "NoQuotas" "all claims are 0")] []),
    (.ret (.bi .tup (.cons (.fr c0_quotas_in) .nil)))]
def fn_quotas_in : Fn := ⟨2, 4, false, b_quotas_in⟩
def b_whole_of : List MS := [(.ret (.bin .fdiv (.ix (.var 0) (.int 0)) (.ix (.var 0) (.int 1))))]
def fn_whole_of : Fn := ⟨1, 1, false, b_whole_of⟩
def c0_bounds_by : MF := .comp [1] (.nm 1) (.seq (.var 0)) .tt (.tup (.cons (.call 77 (.cons (.var 1) .nil)) (.cons (.neg (.bin .fdiv (.neg (.ix (.var 1) (.int 0))) (.ix (.var 1) (.int 1)))) .nil)))
def b_bounds_by : List MS := [(.ret (.bi .tup (.cons (.fr c0_bounds_by) .nil)))]
def fn_bounds_by : Fn := ⟨1, 2, false, b_bounds_by⟩
def c0_rests_in : MF := .comp [10] (.nm 10) (.seq (.var 2)) .tt (.call 77 (.cons (.var 10) .nil))
def c1_rests_in : MF := .comp [11] (.nm 11) (.seq (.var 0)) .tt (.bin .mod (.bin .mul (.var 11) (.var 1)) (.var 5))
def c2_rests_in : MF := .comp [12, 13] (.tup (.cons (.nm 12) (.cons (.nm 13) .nil))) (.enum (.var 6)) (.val (.cmp .gt (.var 13) (.var 7))) (.var 12)
def c3_rests_in : MF := .comp [12, 13] (.tup (.cons (.nm 12) (.cons (.nm 13) .nil))) (.enum (.var 6)) (.val (.cmp .eq (.var 13) (.var 7))) (.var 12)
def c4_rests_in : MF := .comp [12, 14] (.tup (.cons (.nm 12) (.cons (.nm 14) .nil))) (.enum (.var 3)) .tt (.ite (.val (.cmp .isIn (.var 12) (.var 8))) (.bin .add (.var 14) (.int 1)) (.var 14))
def b_rests_in : List MS := [(.asg (.nm 2) (.call 76 (.cons (.var 0) (.cons (.var 1) .nil)))),
    (.asg (.nm 3) (.bi .tup (.cons (.fr c0_rests_in) .nil))),
    (.asg (.nm 4) (.bin .sub (.var 1) (.bi .sum (.cons (.var 3) .nil)))),
    (.ifS (.val (.cmp .eq (.var 4) (.int 0))) [(.ret (.fr (.disp (.cons (.var 3) .nil))))] []),
    (.asg (.nm 5) (.bi .sum (.cons (.var 0) .nil))),
    (.asg (.nm 6) (.fr c1_rests_in)),
    (.asg (.nm 7) (.ix (.fr (.sorted (.var 6))) (.neg (.var 4)))),
    (.asg (.nm 8) (.fr c2_rests_in)),
    (.asg (.nm 9) (.fr c3_rests_in)),
    (.asg (.nm 3) (.bi .tup (.cons (.fr c4_rests_in) .nil))),
    (.ret (.fr (.sorted (.call 71 (.cons (.var 3) (.cons (.var 9) (.cons (.bin .sub (.var 4) (.bi .len (.cons (.var 8) .nil))) .nil)))))))]
def fn_rests_in : Fn := ⟨2, 15, false, b_rests_in⟩
def b_fits_rule : List MS := [(.ifS (.any (.cons (.not_ (.val (.call 2 (.cons (.var 0) (.cons (.int 1) (.cons (.int 2) .nil)))))) (.cons (.not_ (.val (.isi .str (.ix (.var 0) (.int 0))))) .nil))) [(.ret (.bl false))] []),
    (.ifS (.val (.cmp .eq (.bi .len (.cons (.var 0) .nil)) (.int 1))) [(.ret (.cmp .eq (.ix (.var 0) (.int 0)) (.str "rests")))] []),
    (.ret (.and_ (.cons (.cmp .isIn (.ix (.var 0) (.int 0)) (.tup (.cons (.str "right") (.cons (.str "kept") .nil)))) (.cons (.call 11 (.cons (.ix (.var 0) (.int 1)) .nil)) .nil))))]
def fn_fits_rule : Fn := ⟨1, 1, false, b_fits_rule⟩
def b_rows_of : List MS := [(.ifS (.all (.cons (.val (.cmp .eq (.bi .sum (.cons (.var 1) .nil)) (.int 0))) (.cons (.val (.cmp .gt (.var 2) (.int 0))) .nil))) [(.ret (.tup .nil))] []),
    (.ifS (.val (.cmp .eq (.ix (.var 0) (.int 0)) (.str "rests"))) [(.ret (.bi .tup (.cons (.call 79 (.cons (.var 1) (.cons (.var 2) .nil))) .nil)))] []),
    (.asg (.nm 3) (.ite (.val (.cmp .eq (.ix (.var 0) (.int 0)) (.str "kept"))) (.call 78 (.cons (.call 76 (.cons (.var 1) (.cons (.var 2) .nil))) .nil)) (.bin .mul (.tup (.cons (.tup (.cons (.int 0) (.cons (.glb "SEATS" g_SEATS) .nil))) .nil)) (.bi .len (.cons (.var 1) .nil))))),
    (.ret (.bi .tup (.cons (.call 73 (.cons (.var 1) (.cons (.ix (.var 0) (.int 1)) (.cons (.var 3) (.cons (.var 2) .nil))))) .nil)))]
def fn_rows_of : Fn := ⟨3, 4, false, b_rows_of⟩
def b_need_rule : List MS := [(.ifS (.not_ (.val (.call 80 (.cons (.var 0) .nil)))) [(.raise "InvalidRule" "not a rule")] [])]
def fn_need_rule : Fn := ⟨1, 1, false, b_need_rule⟩
def b_is_rule : List MS := [(.ret (.call 80 (.cons (.var 0) .nil)))]
def fn_is_rule : Fn := ⟨1, 1, false, b_is_rule⟩
def b_rows_by : List MS := [(.expr (.call 82 (.cons (.var 0) .nil))),
    (.expr (.call 74 (.cons (.var 1) .nil))),
    (.expr (.call 75 (.cons (.var 2) .nil))),
    (.ret (.call 81 (.cons (.var 0) (.cons (.var 1) (.cons (.var 2) .nil)))))]
def fn_rows_by : Fn := ⟨3, 3, false, b_rows_by⟩
def b__law_post : List MS := [(.ifS (.val (.cmp .eq (.call 41 (.cons (.var 0) (.cons (.int 4) .nil))) (.int 0))) [(.ret (.call 42 (.cons (.var 0) (.cons (.fr (.disp (.cons (.tup (.cons (.str "middle") .nil)) (.cons (.tup (.cons (.str "root") .nil)) .nil)))) .nil))))] []),
    (.ret (.tup (.cons (.str "plus") (.cons (.call 42 (.cons (.var 0) (.cons (.fr (.disp (.cons (.tup (.cons (.int 1) (.cons (.int 2) .nil))) (.cons (.tup (.cons (.int 1) (.cons (.int 2) .nil))) (.cons (.tup (.cons (.int 1) (.cons (.int 1) .nil))) (.cons (.tup (.cons (.int 0) (.cons (.int 1) .nil))) (.cons (.tup (.cons (.int 1) (.cons (.int 3) .nil))) (.cons (.tup (.cons (.int 2) (.cons (.int 5) .nil))) (.cons (.tup (.cons (.int 7) (.cons (.int 10) .nil))) .nil))))))))) .nil))) .nil))))]
def fn__law_post : Fn := ⟨1, 1, false, b__law_post⟩
def c0__law_claims : MF := .comp [2] (.nm 2) (.range1 (.var 1)) .tt (.call 42 (.cons (.var 0) (.cons (.fr (.disp (.cons (.int 0) (.cons (.int 1) (.cons (.int 2) (.cons (.int 3) (.cons (.int 5) (.cons (.int 10) (.cons (.int 30) (.cons (.call 41 (.cons (.var 0) (.cons (.int 100) .nil))) (.cons (.bin .pow (.int 10) (.int 6)) (.cons (.call 41 (.cons (.var 0) (.cons (.bin .pow (.int 10) (.int 6)) .nil))) .nil)))))))))))) .nil)))
def b__law_claims : List MS := [(.ret (.bi .tup (.cons (.fr c0__law_claims) .nil)))]
def fn__law_claims : Fn := ⟨2, 3, false, b__law_claims⟩
def b__law_plain_square : List MS := [(.ifS (.val (.cmp .eq (.ix (.var 0) (.int 0)) (.str "root"))) [(.ret (.tup (.cons (.bin .mul (.var 1) (.bin .add (.var 1) (.int 1))) (.cons (.int 1) .nil))))] []),
    (.ifS (.val (.cmp .eq (.ix (.var 0) (.int 0)) (.str "middle"))) [(.ret (.tup (.cons (.bin .pow (.bin .mul (.bin .mul (.int 2) (.var 1)) (.bin .add (.var 1) (.int 1))) (.int 2)) (.cons (.bin .pow (.bin .add (.bin .mul (.int 2) (.var 1)) (.int 1)) (.int 2)) .nil))))] []),
    (.ret (.tup (.cons (.bin .pow (.bin .add (.bin .mul (.var 1) (.ix (.ix (.var 0) (.int 1)) (.int 1))) (.ix (.ix (.var 0) (.int 1)) (.int 0))) (.int 2)) (.cons (.bin .pow (.ix (.ix (.var 0) (.int 1)) (.int 1)) (.int 2)) .nil))))]
def fn__law_plain_square : Fn := ⟨2, 2, false, b__law_plain_square⟩
def b__law_ahead : List MS := [(.asg (.tup (.cons (.tup (.cons (.nm 5) (.cons (.nm 6) .nil))) (.cons (.tup (.cons (.nm 7) (.cons (.nm 8) .nil))) .nil))) (.tup (.cons (.call 87 (.cons (.var 0) (.cons (.var 2) .nil))) (.cons (.call 87 (.cons (.var 0) (.cons (.var 4) .nil))) .nil)))),
    (.ret (.cmp .gt (.bin .mul (.bin .mul (.bin .mul (.var 1) (.var 1)) (.var 7)) (.var 6)) (.bin .mul (.bin .mul (.bin .mul (.var 3) (.var 3)) (.var 5)) (.var 8))))]
def fn__law_ahead : Fn := ⟨5, 9, false, b__law_ahead⟩
def c0__law_grown : MF := .comp [10, 11] (.tup (.cons (.nm 10) (.cons (.nm 11) .nil))) (.enum (.var 0)) (.all (.cons (.val (.cmp .gt (.var 11) (.int 0))) (.cons (.val (.cmp .lt (.ix (.var 8) (.var 10)) (.ix (.var 4) (.var 10)))) .nil))) (.var 10)
def c1__law_grown : MF := .comp [12] (.nm 12) (.seq (.var 9)) (.val (.call 88 (.cons (.var 1) (.cons (.ix (.var 0) (.var 12)) (.cons (.ix (.var 8) (.var 12)) (.cons (.ix (.var 0) (.var 10)) (.cons (.ix (.var 8) (.var 10)) .nil))))))) (.int 1)
def b0__law_grown : List MS := [(.ifS (.val (.cmp .eq (.fr c1__law_grown) (.fr (.disp .nil)))) [(.expr (.append (.var 7) (.bin .add (.bin .add (.sl (.var 8) .none (.some (.var 10))) (.tup (.cons (.bin .add (.ix (.var 8) (.var 10)) (.int 1)) .nil))) (.sl (.var 8) (.some (.bin .add (.var 10) (.int 1))) .none))))] [])]
def l0__law_grown : MS := .forS (.nm 10) (.seq (.var 9)) b0__law_grown
def b1__law_grown : List MS := [(.asg (.nm 9) (.fr c0__law_grown)),
    l0__law_grown]
def l1__law_grown : MS := .forS (.nm 8) (.seq (.var 5)) b1__law_grown
def b2__law_grown : List MS := [(.asg (.nm 7) (.box (.disp .nil))),
    l1__law_grown,
    (.asg (.nm 5) (.fr (.sortedSet (.var 7))))]
def l2__law_grown : MS := .forS (.nm 6) (.range1 (.bin .sub (.var 2) (.bi .sum (.cons (.var 3) .nil)))) b2__law_grown
def b__law_grown : List MS := [(.asg (.nm 5) (.ite (.val (.cmp .le (.bi .sum (.cons (.var 3) .nil)) (.var 2))) (.fr (.disp (.cons (.bi .tup (.cons (.var 3) .nil)) .nil))) (.fr (.disp .nil)))),
    l2__law_grown,
    (.ret (.var 5))]
def fn__law_grown : Fn := ⟨5, 13, true, b__law_grown⟩
def c0__law_rested : MF := .comp [11] (.nm 11) (.seq (.var 0)) .tt (.bin .fdiv (.bin .mul (.var 11) (.var 1)) (.var 2))
def c1__law_rested : MF := .comp [11] (.nm 11) (.seq (.var 0)) .tt (.bin .mod (.bi .toInt (.cons (.bin .mul (.var 11) (.var 1)) .nil)) (.var 2))
def c2__law_rested : MF := .comp [12] (.nm 12) (.range1 (.bi .len (.cons (.var 0) .nil))) (.all (.cons (.val (.cmp .eq (.ix (.var 8) (.var 12)) (.ix (.var 3) (.var 12)))) (.cons (.val (.cmp .gt (.ix (.var 4) (.var 12)) (.int 0))) .nil))) (.var 12)
def c3__law_rested : MF := .comp [12] (.nm 12) (.seq (.var 9)) .tt (.ix (.var 4) (.var 12))
def c4__law_rested : MF := .comp [12] (.nm 12) (.seq (.var 9)) (.val (.cmp .eq (.ix (.var 4) (.var 12)) (.var 10))) (.bin .add (.bin .add (.sl (.var 8) .none (.some (.var 12))) (.tup (.cons (.bin .add (.ix (.var 8) (.var 12)) (.int 1)) .nil))) (.sl (.var 8) (.some (.bin .add (.var 12) (.int 1))) .none))
def b0__law_rested : List MS := [(.asg (.nm 9) (.fr c2__law_rested)),
    (.asg (.nm 10) (.bi .maxL (.cons (.fr c3__law_rested) .nil))),
    (.asg (.nm 7) (.fr (.cat (.var 7) (.fr c4__law_rested))))]
def l0__law_rested : MS := .forS (.nm 8) (.seq (.var 5)) b0__law_rested
def b1__law_rested : List MS := [(.asg (.nm 7) (.fr (.disp .nil))),
    l0__law_rested,
    (.asg (.nm 5) (.fr (.sortedSet (.var 7))))]
def l1__law_rested : MS := .forS (.nm 6) (.range1 (.bin .sub (.var 1) (.bi .sum (.cons (.var 3) .nil)))) b1__law_rested
def b__law_rested : List MS := [(.asg (.nm 2) (.bi .sum (.cons (.var 0) .nil))),
    (.asg (.tup (.cons (.nm 3) (.cons (.nm 4) .nil))) (.tup (.cons (.bi .tup (.cons (.fr c0__law_rested) .nil)) (.cons (.fr c1__law_rested) .nil)))),
    (.asg (.nm 5) (.fr (.disp (.cons (.var 3) .nil)))),
    l1__law_rested,
    (.ret (.var 5))]
def fn__law_rested : Fn := ⟨2, 13, false, b__law_rested⟩
def c0__law_rows : MF := .comp [6] (.nm 6) (.seq (.var 1)) .tt (.bin .fdiv (.bin .mul (.var 6) (.var 2)) (.var 3))
def c1__law_rows : MF := .comp [6] (.nm 6) (.seq (.var 1)) .tt (.bin .fdiv (.bin .sub (.bin .add (.bin .mul (.var 6) (.var 2)) (.var 3)) (.int 1)) (.var 3))
def b__law_rows : List MS := [(.asg (.tup (.cons (.nm 3) (.cons (.nm 4) .nil))) (.tup (.cons (.bi .sum (.cons (.var 1) .nil)) (.cons (.bi .len (.cons (.var 1) .nil)) .nil)))),
    (.ifS (.val (.cmp .eq (.var 3) (.int 0))) [(.ret (.ite (.val (.cmp .eq (.var 2) (.int 0))) (.fr (.disp (.cons (.bin .mul (.tup (.cons (.int 0) .nil)) (.var 4)) .nil))) (.fr (.disp .nil))))] []),
    (.ifS (.val (.cmp .eq (.ix (.var 0) (.int 0)) (.str "right"))) [(.ret (.call 89 (.cons (.var 1) (.cons (.ix (.var 0) (.int 1)) (.cons (.var 2) (.cons (.fr (.rep (.fr (.disp (.cons (.int 0) .nil))) (.var 4))) (.cons (.fr (.rep (.fr (.disp (.cons (.int 400) .nil))) (.var 4))) .nil)))))))] []),
    (.ifS (.val (.cmp .eq (.ix (.var 0) (.int 0)) (.str "rests"))) [(.ret (.call 90 (.cons (.var 1) (.cons (.var 2) .nil))))] []),
    (.asg (.nm 5) (.fr c0__law_rows)),
    (.ret (.call 89 (.cons (.var 1) (.cons (.ix (.var 0) (.int 1)) (.cons (.var 2) (.cons (.var 5) (.cons (.fr c1__law_rows) .nil)))))))]
def fn__law_rows : Fn := ⟨3, 7, false, b__law_rows⟩
def b__law_rule : List MS := [(.ret (.call 42 (.cons (.var 0) (.cons (.fr (.disp (.cons (.tup (.cons (.str "right") (.cons (.call 85 (.cons (.var 0) .nil)) .nil))) (.cons (.tup (.cons (.str "right") (.cons (.call 85 (.cons (.var 0) .nil)) .nil))) (.cons (.tup (.cons (.str "kept") (.cons (.call 85 (.cons (.var 0) .nil)) .nil))) (.cons (.tup (.cons (.str "rests") .nil)) (.cons (.tup (.cons (.str "rests") .nil)) .nil))))))) .nil))))]
def fn__law_rule : Fn := ⟨1, 1, false, b__law_rule⟩
def c0__law_some_claims : MF := .comp [5] (.nm 5) (.seq (.var 3)) .tt (.bin .add (.int 1) (.call 41 (.cons (.var 0) (.cons (.int 9) .nil))))
def b__law_some_claims : List MS := [(.asg (.nm 2) (.bin .add (.int 1) (.call 41 (.cons (.var 0) (.cons (.var 1) .nil))))),
    (.asg (.nm 3) (.call 86 (.cons (.var 0) (.cons (.var 2) .nil)))),
    (.asg (.nm 4) (.call 42 (.cons (.var 0) (.cons (.fr (.disp (.cons (.int 1) (.cons (.int 7) (.cons (.bin .pow (.int 10) (.int 6)) .nil))))) .nil)))),
    (.ret (.call 42 (.cons (.var 0) (.cons (.fr (.disp (.cons (.var 3) (.cons (.var 3) (.cons (.bi .tup (.cons (.fr c0__law_some_claims) .nil)) (.cons (.bin .mul (.tup (.cons (.var 4) .nil)) (.var 2)) .nil)))))) .nil))))]
def fn__law_some_claims : Fn := ⟨2, 6, false, b__law_some_claims⟩
def b__law_odd_rules : List MS := [(.asg (.nm 1) (.fr (.disp (.cons .non (.cons (.tup .nil) (.cons (.str "rests") (.cons (.tup (.cons (.str "rests") (.cons (.var 0) .nil))) (.cons (.tup (.cons (.str "right") .nil)) (.cons (.tup (.cons (.str "kept") .nil)) (.cons (.tup (.cons (.str "right") (.cons (.tup (.cons (.str "plus") (.cons (.tup (.cons (.int 3) (.cons (.int 2) .nil))) .nil))) .nil))) (.cons (.tup (.cons (.str "kept") (.cons .non .nil))) (.cons (.fr (.disp (.cons (.str "rests") .nil))) (.cons (.tup (.cons (.str "Rests") .nil)) (.cons (.tup (.cons .non .nil)) .nil)))))))))))))),
    (.ret (.fr (.cat (.var 1) (.fr (.disp (.cons (.tup (.cons (.str "right") (.cons (.var 0) (.cons (.int 1) .nil)))) (.cons (.tup (.cons (.str "right") (.cons (.fr (.toList (.var 0))) .nil))) (.cons (.tup (.cons (.str "rest") (.cons (.var 0) .nil))) (.cons (.tup (.cons (.tup (.cons (.str "right") .nil)) (.cons (.var 0) .nil))) (.cons (.tup (.cons (.str "kept") (.cons (.tup (.cons (.str "root") (.cons (.int 1) .nil))) .nil))) (.cons (.tup (.cons (.str "right") (.cons (.str "root") .nil))) (.cons (.bl true) .nil))))))))))))]
def fn__law_odd_rules : Fn := ⟨1, 2, false, b__law_odd_rules⟩
def b0_law : List MS := [(.asg (.tup (.cons (.nm 3) (.cons (.nm 4) (.cons (.nm 5) .nil)))) (.tup (.cons (.call 92 (.cons (.var 1) .nil)) (.cons (.call 93 (.cons (.var 1) (.cons (.int 6) .nil))) (.cons (.call 41 (.cons (.var 1) (.cons (.int 13) .nil))) .nil))))),
    (.asg (.nm 6) (.call 84 (.cons (.var 3) (.cons (.var 4) (.cons (.var 5) .nil))))),
    (.ifS (.any (.cons (.val (.notB true (.call 83 (.cons (.var 3) .nil)))) (.cons (.val (.cmp .ne (.repr (.var 6)) (.repr (.bi .tup (.cons (.call 91 (.cons (.var 3) (.cons (.var 4) (.cons (.var 5) .nil)))) .nil))))) .nil))) [(.ret (.bl false))] [])]
def l0_law : MS := .forS (.nm 2) (.range1 (.int 5)) b0_law
def c0_law : MF := .comp [8] (.nm 8) (.seq (.call 94 (.cons (.var 7) .nil))) (.val (.notB false (.call 83 (.cons (.var 8) .nil)))) (.var 8)
def b1_law : List MS := [(.ifS (.any (.cons (.val (.cmp .ne (.call 84 (.cons (.var 3) (.cons (.tup (.cons (.int 0) (.cons (.int 0) .nil))) (.cons (.int 0) .nil)))) (.tup (.cons (.tup (.cons (.int 0) (.cons (.int 0) .nil))) .nil)))) (.cons (.val (.cmp .ne (.call 84 (.cons (.var 3) (.cons (.tup (.cons (.int 0) (.cons (.int 0) .nil))) (.cons (.bin .add (.int 1) (.call 41 (.cons (.var 1) (.cons (.int 9) .nil)))) .nil)))) (.tup .nil))) (.cons (.val (.cmp .ne (.call 84 (.cons (.var 3) (.cons (.tup (.cons (.int 5) .nil)) (.cons (.int 400) .nil)))) (.tup (.cons (.tup (.cons (.int 400) .nil)) .nil)))) .nil)))) [(.ret (.bl false))] [])]
def l1_law : MS := .forS (.nm 3) (.seq (.tup (.cons (.tup (.cons (.str "right") (.cons (.var 7) .nil))) (.cons (.tup (.cons (.str "kept") (.cons (.var 7) .nil))) (.cons (.tup (.cons (.str "rests") .nil)) .nil))))) b1_law
def b_law : List MS := [(.asg (.nm 1) (.call 40 (.cons (.var 0) .nil))),
    l0_law,
    (.asg (.nm 7) (.call 85 (.cons (.var 1) .nil))),
    (.ifS (.val (.cmp .ne (.fr c0_law) (.fr (.disp .nil)))) [(.ret (.bl false))] []),
    l1_law,
    (.ret (.and_ (.cons (.cmp .eq (.bi .len (.cons (.call 84 (.cons (.tup (.cons (.str "rests") .nil)) (.cons (.bin .mul (.tup (.cons (.int 3) .nil)) (.int 8)) (.cons (.int 4) .nil)))) .nil)) (.int 70)) (.cons (.cmp .eq (.bi .len (.cons (.call 84 (.cons (.tup (.cons (.str "right") (.cons (.tup (.cons (.str "plus") (.cons (.tup (.cons (.int 1) (.cons (.int 2) .nil))) .nil))) .nil))) (.cons (.bin .mul (.tup (.cons (.int 3) .nil)) (.int 8)) (.cons (.int 4) .nil)))) .nil)) (.int 70)) .nil))))]
def fn_law : Fn := ⟨1, 9, false, b_law⟩
def T : Nat → Option Fn
  | 0 => some fn_is_whole
  | 1 => some fn_is_integer
  | 2 => some fn_is_tuple_of
  | 3 => some fn_common_divisor
  | 4 => some fn_fits_ratio
  | 5 => some fn_made
  | 10 => some fn_compared
  | 11 => some fn_fits_post
  | 40 => some fn__law_cup
  | 41 => some fn__law_roll
  | 42 => some fn__law_some
  | 65 => some fn_square_of
  | 66 => some fn_need_number
  | 67 => some fn_fits_claims
  | 68 => some fn_sign_between
  | 69 => some fn_greatest_next
  | 70 => some fn_least_given
  | 71 => some fn_with_more
  | 72 => some fn_one_in
  | 73 => some fn_rows_in
  | 74 => some fn_need_claims
  | 75 => some fn_need_house
  | 76 => some fn_quotas_in
  | 77 => some fn_whole_of
  | 78 => some fn_bounds_by
  | 79 => some fn_rests_in
  | 80 => some fn_fits_rule
  | 81 => some fn_rows_of
  | 82 => some fn_need_rule
  | 83 => some fn_is_rule
  | 84 => some fn_rows_by
  | 85 => some fn__law_post
  | 86 => some fn__law_claims
  | 87 => some fn__law_plain_square
  | 88 => some fn__law_ahead
  | 89 => some fn__law_grown
  | 90 => some fn__law_rested
  | 91 => some fn__law_rows
  | 92 => some fn__law_rule
  | 93 => some fn__law_some_claims
  | 94 => some fn__law_odd_rules
  | 95 => some fn_law
  | _ => none
theorem T_is_whole : T 0 = some fn_is_whole := rfl
theorem T_is_integer : T 1 = some fn_is_integer := rfl
theorem T_is_tuple_of : T 2 = some fn_is_tuple_of := rfl
theorem T_common_divisor : T 3 = some fn_common_divisor := rfl
theorem T_fits_ratio : T 4 = some fn_fits_ratio := rfl
theorem T_made : T 5 = some fn_made := rfl
theorem T_compared : T 10 = some fn_compared := rfl
theorem T_fits_post : T 11 = some fn_fits_post := rfl
theorem T__law_cup : T 40 = some fn__law_cup := rfl
theorem T__law_roll : T 41 = some fn__law_roll := rfl
theorem T__law_some : T 42 = some fn__law_some := rfl
theorem T_square_of : T 65 = some fn_square_of := rfl
theorem T_need_number : T 66 = some fn_need_number := rfl
theorem T_fits_claims : T 67 = some fn_fits_claims := rfl
theorem T_sign_between : T 68 = some fn_sign_between := rfl
theorem T_greatest_next : T 69 = some fn_greatest_next := rfl
theorem T_least_given : T 70 = some fn_least_given := rfl
theorem T_with_more : T 71 = some fn_with_more := rfl
theorem T_one_in : T 72 = some fn_one_in := rfl
theorem T_rows_in : T 73 = some fn_rows_in := rfl
theorem T_need_claims : T 74 = some fn_need_claims := rfl
theorem T_need_house : T 75 = some fn_need_house := rfl
theorem T_quotas_in : T 76 = some fn_quotas_in := rfl
theorem T_whole_of : T 77 = some fn_whole_of := rfl
theorem T_bounds_by : T 78 = some fn_bounds_by := rfl
theorem T_rests_in : T 79 = some fn_rests_in := rfl
theorem T_fits_rule : T 80 = some fn_fits_rule := rfl
theorem T_rows_of : T 81 = some fn_rows_of := rfl
theorem T_need_rule : T 82 = some fn_need_rule := rfl
theorem T_is_rule : T 83 = some fn_is_rule := rfl
theorem T_rows_by : T 84 = some fn_rows_by := rfl
theorem T__law_post : T 85 = some fn__law_post := rfl
theorem T__law_claims : T 86 = some fn__law_claims := rfl
theorem T__law_plain_square : T 87 = some fn__law_plain_square := rfl
theorem T__law_ahead : T 88 = some fn__law_ahead := rfl
theorem T__law_grown : T 89 = some fn__law_grown := rfl
theorem T__law_rested : T 90 = some fn__law_rested := rfl
theorem T__law_rows : T 91 = some fn__law_rows := rfl
theorem T__law_rule : T 92 = some fn__law_rule := rfl
theorem T__law_some_claims : T 93 = some fn__law_some_claims := rfl
theorem T__law_odd_rules : T 94 = some fn__law_odd_rules := rfl
theorem T_law : T 95 = some fn_law := rfl
end G
set_option Elab.async false
set_option linter.all false
set_option maxRecDepth 100000
/-! S1: what the small defs compute. -/
namespace MM
open PySem PySem.Spec PyProof.Rows L2
/-! ### loops that run as long as they need -/
theorem whlN_mono {c : MEnv → MH → Res Bool} {b : MEnv → MH → Res (Fl × MEnv)} : ∀ (n : Nat) (e : MEnv) (h : MH), whlN c b n e h ≠ .bad → ∀ m, n ≤ m → whlN c b m e h = whlN c b n e h
  | 0, _, _, hn, _, _ => absurd rfl hn
  | n + 1, e, h, hn, m, hm => by
    obtain ⟨m, rfl⟩ : ∃ k, m = k + 1 := ⟨m - 1, by omega⟩
    have hm' : n ≤ m := by omega
    simp only [whlN] at hn ⊢
    cases q : c e h with
    | bad => rfl
    | exc _ _ _ => rfl
    | ok k h1 =>
      simp only [q, Res.bind_ok] at hn ⊢
      cases k with
      | false => rfl
      | true =>
        simp only [if_true] at hn ⊢
        cases q2 : b e h1 with
        | bad => rfl
        | exc _ _ _ => rfl
        | ok fe h2 =>
          simp only [q2, Res.bind_ok] at hn ⊢
          obtain ⟨fl, e2⟩ := fe
          cases fl with
          | nx => exact whlN_mono n e2 h2 hn m hm'
          | ct => exact whlN_mono n e2 h2 hn m hm'
          | bk => rfl
          | rt v => rfl
theorem whlF_eq {c : MEnv → MH → Res Bool} {b : MEnv → MH → Res (Fl × MEnv)} {n : Nat} {e : MEnv} {h : MH} {r : Res (Fl × MEnv)} (q : whlN c b n e h = r) (hr : r ≠ .bad) : whlF c b e h = r := by
  have hn : whlN c b n e h ≠ .bad := by rw [q]; exact hr
  have ex : ∃ n, whlN c b n e h ≠ .bad := ⟨n, hn⟩
  unfold whlF
  rw [dif_pos ex]
  have hc := Classical.choose_spec ex
  have e1 := whlN_mono n e h hn (max n (Classical.choose ex)) (Nat.le_max_left _ _)
  have e2 := whlN_mono _ e h hc (max n (Classical.choose ex)) (Nat.le_max_right _ _)
  rw [← e2, e1, q]
theorem whl_eq {c : MEnv → MH → Res Bool} {b : MEnv → MH → Res (Fl × MEnv)} (n : Nat) {e : MEnv} {h : MH} {r : Res (Fl × MEnv)} (q : whlN c b n e h = r) (hr : r ≠ .bad) : whl none c b e h = r := whlF_eq q hr
/-! ### sizes -/
def Sm (a : Int) : Prop := ∃ k, k ≤ 4000 ∧ a.natAbs < 2 ^ k
theorem log2_le {n k : Nat} (h : n < 2 ^ k) : n.log2 ≤ k := by
  by_cases h0 : n = 0
  · subst h0; exact Nat.zero_le _
  · exact Nat.le_of_lt ((Nat.log2_lt h0).mpr h)
theorem mul_ok {a b : Int} (h1 : Sm a) (h2 : Sm b) : mulOk a b = true := by
  obtain ⟨k1, l1, h1⟩ := h1
  obtain ⟨k2, l2, h2⟩ := h2
  have := log2_le h1
  have := log2_le h2
  exact Nat.ble_eq_true_of_le (by omega)
theorem div_ok {a b : Int} (h0 : 0 < b) (h2 : Sm b) : divOk a b = true := by
  obtain ⟨k2, l2, h2⟩ := h2
  have := log2_le h2
  unfold divOk
  rw [decide_eq_true h0, Nat.ble_eq_true_of_le (show b.natAbs.log2 ≤ 8990 by omega)]
  rfl
theorem pow_ok {a b : Int} (h0 : 0 ≤ b) (h1 : b ≤ 1000) (h2 : a.natAbs < 2 ^ 63) : powOk a b = true := by
  have := log2_le h2
  unfold powOk
  rw [decide_eq_true h0, decide_eq_true h1, Nat.ble_eq_true_of_le this]
  rfl
end MM
namespace G
open PySem MM
theorem call_at {L : Option Nat} {n i : Nat} {f : Fn} {vs : List MV} {h : MH} (hT : T i = some f) (hn : 1 ≤ n) : callK L T n i vs h = runFn L (callK L T (n - 1)) f vs h := by
  obtain ⟨m, rfl⟩ : ∃ m, n = m + 1 := ⟨n - 1, by omega⟩
  show (match T i with | some f => runFn L (callK L T m) f vs h | none => .bad) = _
  rw [hT]
  rfl
/-! ### ratios -/
theorem sp_is_integer (n : Nat) (hn : 1 ≤ n) (a : Int) (h : MH) : callK none T n 1 [.int a] h = .ok (.bl true) h := by
  rw [call_at T_is_integer hn]
  simp [runFn, fn_is_integer, b_is_integer, finFn, evSs, evS, evE, evEs, evAnd]
theorem sp_is_whole (n : Nat) (hn : 1 ≤ n) (a b c : Int) (h : MH) : callK none T n 0 [.int a, .int b, .int c] h = .ok (.bl (decide (b ≤ a ∧ a ≤ c))) h := by
  rw [call_at T_is_whole hn]
  by_cases h1 : b ≤ a <;> by_cases h2 : a ≤ c <;> simp [runFn, fn_is_whole, b_is_whole, finFn, evSs, evS, evE, evEs, evAnd, h1, h2]
theorem sp_is_tuple_of (n : Nat) (hn : 1 ≤ n) (xs : List MV) (b c : Int) (h : MH) : callK none T n 2 [.tup xs, .int b, .int c] h = .ok (.bl (decide (b ≤ xs.length ∧ (xs.length : Int) ≤ c))) h := by
  rw [call_at T_is_tuple_of hn]
  by_cases h1 : b ≤ (xs.length : Int) <;> by_cases h2 : (xs.length : Int) ≤ c <;> simp [runFn, fn_is_tuple_of, b_is_tuple_of, finFn, evSs, evS, evE, evEs, evAnd, h1, h2]
theorem gcd_loop (G : MM.Callee) (h : MH) : ∀ (b a : Nat), ∃ n e', whlN (fun e h => evB G (.val (.cmp .ne (.var 1) (.int 0))) e h) (fun e h => evSs none G [(.asg (.tup (.cons (.nm 0) (.cons (.nm 1) .nil))) (.tup (.cons (.var 1) (.cons (.bin .mod (.var 0) (.var 1)) .nil))))] e h) n [some (.int a), some (.int b)] h = .ok (.nx, e') h ∧ e'[0]? = some (some (.int (Nat.gcd a b))) := by
  intro b
  induction b using Nat.strongRecOn with
  | _ b ih =>
    intro a
    by_cases hb : b = 0
    · subst hb
      refine ⟨1, [some (.int a), some (.int 0)], ?_, ?_⟩
      · simp [whlN, evB, evE]
      · simp
    · have hlt : a % b < b := Nat.mod_lt _ (by omega)
      obtain ⟨n, e', h1, h2⟩ := ih (a % b) hlt b
      refine ⟨n + 1, e', ?_, ?_⟩
      · have hb' : ¬ ((b : Int) = 0) := by omega
        have hb2 : (0 : Int) < b := by omega
        have e1 : ((a : Int) % (b : Int)) = ((a % b : Nat) : Int) := rfl
        simp [whlN, evB, evE, evSs, evS, evEs, evT, evTs, hb, Nat.pos_of_ne_zero hb]
        rw [e1]
        simpa [evB, evE, evSs, evS, evEs, evT, evTs] using h1
      · rw [h2, Nat.gcd_comm b, ← Nat.gcd_rec b a, Nat.gcd_comm]
theorem sp_common_divisor (n : Nat) (hn : 1 ≤ n) (a b : Int) (h : MH) : callK none T n 3 [.int a, .int b] h = .ok (.int (Int.gcd a b)) h := by
  rw [call_at T_common_divisor hn]
  obtain ⟨m, e', h1, h2⟩ := gcd_loop (callK none T (n - 1)) h b.natAbs a.natAbs
  have ea : (if a < 0 then -a else a) = (a.natAbs : Int) := by split <;> omega
  have eb : (if b < 0 then -b else b) = (b.natAbs : Int) := by split <;> omega
  have w := whl_eq m h1 (fun z => nomatch z)
  simp [runFn, fn_common_divisor, b_common_divisor, finFn, evSs, evS, evE, evEs, evT, evTs, ea, eb]
  simp [evSs, evS, evE, evEs, evT, evTs] at w
  rw [w]
  simp [h2]
  rfl
/-- in lowest terms -/
def low (a b : Int) : Int × Int := (a / Int.gcd a b, b / Int.gcd a b)
theorem gcd_sm {a b : Int} (hb : 0 < b) (h : Sm b) : 0 < (Int.gcd a b : Int) ∧ Sm (Int.gcd a b) := by
  have h1 : 0 < Int.gcd a b := Int.gcd_pos_of_ne_zero_right _ (by omega)
  have h2 : Int.gcd a b ≤ b.natAbs := Nat.le_of_dvd (by omega) (Nat.gcd_dvd_right _ _)
  obtain ⟨k, l, h⟩ := h
  exact ⟨by omega, k, l, by simp only [Int.natAbs_natCast]; omega⟩
theorem sp_made (n : Nat) (hn : 2 ≤ n) (a b : Int) (hb : 0 < b) (sb : Sm b) (h : MH) : callK none T n 5 [.int a, .int b] h = .ok (.tup [.int (low a b).1, .int (low a b).2]) h := by
  rw [call_at T_made (by omega)]
  obtain ⟨g1, g2⟩ := gcd_sm (a := a) hb sb
  have hb' : ¬ b < 0 := by omega
  simp [runFn, fn_made, b_made, finFn, evSs, evS, evE, evEs, evT, evTs, evB, hb', sp_common_divisor (n - 1) (by omega), div_ok g1 g2, low]
theorem sp_compared (n : Nat) (hn : 1 ≤ n) (a b c d : Int) (h : MH) (h1 : mulOk a d = true) (h2 : mulOk c b = true) : callK none T n 10 [.tup [.int a, .int b], .tup [.int c, .int d]] h = .ok (.int (if a * d < c * b then -1 else if c * b < a * d then 1 else 0)) h := by
  rw [call_at T_compared hn]
  by_cases c1 : a * d < c * b <;> by_cases c2 : c * b < a * d <;> simp [runFn, fn_compared, b_compared, finFn, evSs, evS, evE, evEs, evT, evTs, evB, h1, h2, c1, c2]
/-! ### posts -/
inductive Post where | middle | root | plus (a b : Nat)
def Post.mv : Post → MV
  | .middle => .tup [.str "middle"]
  | .root => .tup [.str "root"]
  | .plus a b => .tup [.str "plus", .tup [.int a, .int b]]
/-- a post of the law's: small, its ratio below 1 -/
def Post.Ok : Post → Prop
  | .plus a b => 0 < b ∧ a ≤ b ∧ b ≤ 100 ∧ Nat.gcd a b = 1
  | _ => True
def sqn : Post → Nat → Int × Int
  | .root, s => (s * (s + 1), 1)
  | .middle, s => low (4 * s ^ 2 * (s + 1) ^ 2) ((2 * s + 1) ^ 2)
  | .plus a b, s => low ((s * b + a) ^ 2) (b ^ 2)
theorem str_ne1 : strEq "middle" "root" = false := by decide +kernel
theorem str_ne2 : strEq "plus" "root" = false := by decide +kernel
theorem str_ne3 : strEq "plus" "middle" = false := by decide +kernel
theorem str_ne4 : strEq "root" "middle" = false := by decide +kernel
theorem str_e1 : strEq "middle" "middle" = true := by decide +kernel
theorem str_e2 : strEq "root" "root" = true := by decide +kernel
theorem str_e3 : strEq "plus" "plus" = true := by decide +kernel
theorem str_f1 : strFine "middle" = true := by decide +kernel
theorem str_f2 : strFine "root" = true := by decide +kernel
theorem str_f3 : strFine "plus" = true := by decide +kernel
theorem cv_eqS (x y : Str) (hx : strFine x = true) (hy : strFine y = true) (h : MH) : cmpV .eq (.str x) (.str y) h = .ok (.bl (strEq x y)) h := by
  rw [cv_eq]; simp [shp, hx, hy, eqv]
theorem cv_neS (x y : Str) (hx : strFine x = true) (hy : strFine y = true) (h : MH) : cmpV .ne (.str x) (.str y) h = .ok (.bl (!strEq x y)) h := by
  rw [cv_ne]; simp [shp, hx, hy, eqv]
theorem small_nat {n k : Nat} (h : n < 2 ^ k) (hk : k ≤ 4000) : Sm (n : Int) := ⟨k, hk, by simpa using h⟩
theorem sq_lt {n k : Nat} (h : n < 2 ^ k) : n ^ 2 < 2 ^ (2 * k) := by
  rw [show 2 * k = k * 2 by omega, Nat.pow_mul]
  exact Nat.pow_lt_pow_left h (by omega)
theorem sp_square_of (n : Nat) (hn : 3 ≤ n) (p : Post) (hp : p.Ok) (s : Nat) (hs : s ≤ 1000) (h : MH) : callK none T n 65 [p.mv, .int s] h = .ok (.tup [.int (sqn p s).1, .int (sqn p s).2]) h := by
  rw [call_at T_square_of (by omega)]
  have s0 : ¬ ((s : Int) < 0) := by omega
  have ss : Sm (s : Int) := small_nat (k := 10) (by omega) (by omega)
  have ss1 : Sm ((s : Int) + 1) := small_nat (n := s + 1) (k := 10) (by omega) (by omega)
  cases p with
  | root =>
    simp [runFn, fn_square_of, b_square_of, finFn, evSs, evS, evE, evEs, evT, evTs, evB, s0, Post.mv, cv_eqS, str_f1, str_f2, str_f3, str_e2, mul_ok ss ss1, sqn]
  | middle =>
    have e1 : (4 * (s : Int) ^ 2 * ((s : Int) + 1) ^ 2) = ((4 * s ^ 2 * (s + 1) ^ 2 : Nat) : Int) := by simp
    have e2 : ((2 * (s : Int) + 1) ^ 2) = (((2 * s + 1) ^ 2 : Nat) : Int) := by simp
    have p1 : powOk (s : Int) 2 = true := pow_ok (by omega) (by omega) (by simp; omega)
    have p2 : powOk ((s : Int) + 1) 2 = true := pow_ok (by omega) (by omega) (by omega)
    have p3 : powOk (2 * (s : Int) + 1) 2 = true := pow_ok (by omega) (by omega) (by omega)
    have q1 : s ^ 2 < 2 ^ 20 := sq_lt (k := 10) (by omega)
    have q2 : (s + 1) ^ 2 < 2 ^ 20 := sq_lt (k := 10) (by omega)
    have q3 : (2 * s + 1) ^ 2 < 2 ^ 22 := sq_lt (k := 11) (by omega)
    have m1 : mulOk 4 ((s : Int) ^ 2) = true := mul_ok (small_nat (n := 4) (k := 3) (by omega) (by omega)) (small_nat (n := s ^ 2) q1 (by omega))
    have m2 : mulOk (4 * (s : Int) ^ 2) (((s : Int) + 1) ^ 2) = true := mul_ok (small_nat (n := 4 * s ^ 2) (k := 22) (by omega) (by omega)) (small_nat (n := (s + 1) ^ 2) q2 (by omega))
    have m3 : mulOk 2 (s : Int) = true := mul_ok (small_nat (n := 2) (k := 2) (by omega) (by omega)) ss
    have sp : Sm ((2 * (s : Int) + 1) ^ 2) := small_nat (n := (2 * s + 1) ^ 2) q3 (by omega)
    have pos : 0 < ((2 * (s : Int) + 1) ^ 2) := by rw [e2]; exact Int.natCast_pos.mpr (Nat.pow_pos (by omega))
    have md := sp_made (n - 1) (by omega) (4 * (s : Int) ^ 2 * ((s : Int) + 1) ^ 2) _ pos sp h
    simp [runFn, fn_square_of, b_square_of, finFn, evSs, evS, evE, evEs, evT, evTs, evB, s0, Post.mv, cv_eqS, str_f1, str_f2, str_f3, str_ne1, str_e1, p1, p2, p3, m1, m2, m3, md, sqn]
  | plus a b =>
    obtain ⟨b0, ab, b1, _⟩ := hp
    have e1 : ((s : Int) * b + a) ^ 2 = (((s * b + a) ^ 2 : Nat) : Int) := by simp
    have lb : s * b ≤ 1000 * 100 := Nat.mul_le_mul hs b1
    have m1 : mulOk (s : Int) (b : Int) = true := mul_ok ss (small_nat (n := b) (k := 7) (by omega) (by omega))
    have p1 : powOk ((s : Int) * b + a) 2 = true := pow_ok (by omega) (by omega) (by
      have : ((s : Int) * b + a).natAbs = s * b + a := by
        have : ((s : Int) * b + a) = ((s * b + a : Nat) : Int) := by simp
        rw [this]; exact Int.natAbs_natCast _
      omega)
    have p2 : powOk (b : Int) 2 = true := pow_ok (by omega) (by omega) (by simp; omega)
    have pos : 0 < (b : Int) ^ 2 := by
      have : ((b : Int) ^ 2) = ((b ^ 2 : Nat) : Int) := by simp
      rw [this]; exact Int.natCast_pos.mpr (Nat.pow_pos (by omega))
    have sp : Sm ((b : Int) ^ 2) := by
      have q := sq_lt (n := b) (k := 7) (by omega)
      exact small_nat (n := b ^ 2) q (by omega)
    have md := sp_made (n - 1) (by omega) (((s : Int) * b + a) ^ 2) _ pos sp h
    simp [runFn, fn_square_of, b_square_of, finFn, evSs, evS, evE, evEs, evT, evTs, evB, s0, Post.mv, cv_eqS, str_f1, str_f2, str_f3, str_ne2, str_ne3, m1, p1, p2, md, sqn]
end G
set_option Elab.async false
set_option linter.all false
set_option maxRecDepth 100000
/-! S2: the order of quotients. -/
namespace G
open PySem MM
/-- the square's parts, not lowered -/
def num : Post → Nat → Nat
  | .root, s => s * (s + 1)
  | .middle, s => 4 * s ^ 2 * (s + 1) ^ 2
  | .plus a b, s => (s * b + a) ^ 2
def den : Post → Nat → Nat
  | .root, _ => 1
  | .middle, s => (2 * s + 1) ^ 2
  | .plus _ b, _ => b ^ 2
theorem den_pos {p : Post} (hp : p.Ok) (s : Nat) : 0 < den p s := by
  cases p with
  | root => exact Nat.one_pos
  | middle => exact Nat.pow_pos (by omega)
  | plus a b => exact Nat.pow_pos hp.1
/-- lowered and not: the same ratio -/
theorem low_cross (a b : Nat) (hb : 0 < b) : ∃ x y : Nat, low a b = ((x : Int), (y : Int)) ∧ 0 < y ∧ x ≤ a ∧ y ≤ b ∧ ∃ g : Nat, 0 < g ∧ a = x * g ∧ b = y * g ∧ (x = 0 → y = 1) := by
  have hg : 0 < Nat.gcd a b := Nat.gcd_pos_of_pos_right _ hb
  obtain ⟨x, hx⟩ := Nat.gcd_dvd_left a b
  obtain ⟨y, hy⟩ := Nat.gcd_dvd_right a b
  have ex : a / Nat.gcd a b = x := by
    conv => lhs; lhs; rw [hx]
    exact Nat.mul_div_cancel_left x hg
  have ey : b / Nat.gcd a b = y := by
    conv => lhs; lhs; rw [hy]
    exact Nat.mul_div_cancel_left y hg
  have y0 : 0 < y := by
    rcases Nat.eq_zero_or_pos y with e | e
    · rw [e] at hy; omega
    · exact e
  refine ⟨x, y, ?_, y0, ?_, ?_, Nat.gcd a b, hg, by rw [Nat.mul_comm]; exact hx, by rw [Nat.mul_comm]; exact hy, fun e => ?_⟩
  · unfold low
    have h : (Int.gcd (a : Int) (b : Int)) = Nat.gcd a b := rfl
    rw [h]
    have h1 : ((a : Int) / (Nat.gcd a b : Int)) = ((a / Nat.gcd a b : Nat) : Int) := rfl
    have h2 : ((b : Int) / (Nat.gcd a b : Int)) = ((b / Nat.gcd a b : Nat) : Int) := rfl
    rw [h1, h2, ex, ey]
  · rw [← ex]; exact Nat.div_le_self _ _
  · rw [← ey]; exact Nat.div_le_self _ _
  · rw [e, Nat.mul_zero] at hx
    rw [hx, Nat.gcd_zero_left] at hy
    have := Nat.eq_of_mul_eq_mul_left hb (hy.symm.trans (Nat.mul_one b).symm)
    exact this
theorem sqn_is {p : Post} (hp : p.Ok) (s : Nat) : ∃ x y g : Nat, sqn p s = ((x : Int), (y : Int)) ∧ 0 < y ∧ 0 < g ∧ num p s = x * g ∧ den p s = y * g ∧ x ≤ num p s ∧ y ≤ den p s ∧ (x = 0 → y = 1) := by
  cases p with
  | root => exact ⟨s * (s + 1), 1, 1, by simp [sqn], by omega, by omega, by simp [num], by simp [den], by simp [num], by simp [den], fun _ => rfl⟩
  | middle =>
    obtain ⟨x, y, h1, h2, h3, h4, g, h5, h6, h7, h8⟩ := low_cross (4 * s ^ 2 * (s + 1) ^ 2) ((2 * s + 1) ^ 2) (Nat.pow_pos (by omega))
    refine ⟨x, y, g, ?_, h2, h5, h6, h7, h3, h4, h8⟩
    rw [← h1]
    simp [sqn]
  | plus a b =>
    obtain ⟨x, y, h1, h2, h3, h4, g, h5, h6, h7, h8⟩ := low_cross ((s * b + a) ^ 2) (b ^ 2) (Nat.pow_pos hp.1)
    refine ⟨x, y, g, ?_, h2, h5, h6, h7, h3, h4, h8⟩
    rw [← h1]
    simp [sqn]
/-- the sign of a nat against another -/
def sg (a b : Nat) : Int := if a < b then -1 else if b < a then 1 else 0
/-- which quotient is the greater: claim c at s, claim o at m -/
def qs (p : Post) (c s o m : Nat) : Int := sg (c ^ 2 * den p s * num p m) (o ^ 2 * den p m * num p s)
theorem sg_mul {a b k : Nat} (hk : 0 < k) : sg (a * k) (b * k) = sg a b := by
  unfold sg
  simp only [Nat.mul_lt_mul_right hk]
theorem num_lt {p : Post} (hp : p.Ok) {s : Nat} (hs : s ≤ 1000) : num p s < 2 ^ 60 ∧ den p s < 2 ^ 30 := by
  cases p with
  | root =>
    have : s * (s + 1) ≤ 1000 * 1001 := Nat.mul_le_mul hs (by omega)
    exact ⟨by show s * (s + 1) < _; omega, by show 1 < _; omega⟩
  | middle =>
    have h1 : s ^ 2 ≤ 1000 ^ 2 := Nat.pow_le_pow_left hs 2
    have h2 : (s + 1) ^ 2 ≤ 1001 ^ 2 := Nat.pow_le_pow_left (by omega) 2
    have h3 : (2 * s + 1) ^ 2 ≤ 2001 ^ 2 := Nat.pow_le_pow_left (by omega) 2
    have h4 : 4 * s ^ 2 * (s + 1) ^ 2 ≤ 4 * 1000 ^ 2 * 1001 ^ 2 := Nat.mul_le_mul (Nat.mul_le_mul_left 4 h1) h2
    exact ⟨Nat.lt_of_le_of_lt h4 (by decide), Nat.lt_of_le_of_lt h3 (by decide)⟩
  | plus a b =>
    obtain ⟨b0, ab, b1, _⟩ := hp
    have h0 : s * b ≤ 1000 * 100 := Nat.mul_le_mul hs b1
    have h1 : (s * b + a) ^ 2 ≤ 100100 ^ 2 := Nat.pow_le_pow_left (by omega) 2
    have h2 : b ^ 2 ≤ 100 ^ 2 := Nat.pow_le_pow_left b1 2
    exact ⟨Nat.lt_of_le_of_lt h1 (by decide), Nat.lt_of_le_of_lt h2 (by decide)⟩
theorem mul_lt_pow {a b j k : Nat} (h1 : a < 2 ^ j) (h2 : b < 2 ^ k) : a * b < 2 ^ (j + k) := by
  rw [Nat.pow_add]
  exact Nat.mul_lt_mul'' h1 h2
theorem sp_sign_between (n : Nat) (hn : 4 ≤ n) (p : Post) (hp : p.Ok) (c s o m : Nat) (hc : 0 < c) (hc2 : c ≤ 10 ^ 6) (ho : 0 < o) (ho2 : o ≤ 10 ^ 6) (hs : s ≤ 1000) (hm : m ≤ 1000) (h : MH) : callK none T n 68 [p.mv, .int c, .int s, .int o, .int m] h = .ok (.int (qs p c s o m)) h := by
  rw [call_at T_sign_between (by omega)]
  obtain ⟨x1, y1, g1, e1, a1, b1, c1, d1, f1, k1, z1⟩ := sqn_is hp s
  obtain ⟨x2, y2, g2, e2, a2, b2, c2, d2, f2, k2, z2⟩ := sqn_is hp m
  have q1 := sp_square_of (n - 1) (by omega) p hp s hs h
  have q2 := sp_square_of (n - 1) (by omega) p hp m hm h
  rw [e1] at q1
  rw [e2] at q2
  simp only at q1 q2
  obtain ⟨l1, l2⟩ := num_lt hp hs
  obtain ⟨l3, l4⟩ := num_lt hp hm
  have cc : c ^ 2 < 2 ^ 40 := by
    have : c ^ 2 ≤ (10 ^ 6) ^ 2 := Nat.pow_le_pow_left hc2 2
    exact Nat.lt_of_le_of_lt this (by decide)
  have oo : o ^ 2 < 2 ^ 40 := by
    have : o ^ 2 ≤ (10 ^ 6) ^ 2 := Nat.pow_le_pow_left ho2 2
    exact Nat.lt_of_le_of_lt this (by decide)
  have x1l : x1 < 2 ^ 60 := Nat.lt_of_le_of_lt f1 l1
  have x2l : x2 < 2 ^ 60 := Nat.lt_of_le_of_lt f2 l3
  have y1l : y1 < 2 ^ 30 := Nat.lt_of_le_of_lt k1 l2
  have y2l : y2 < 2 ^ 30 := Nat.lt_of_le_of_lt k2 l4
  have eq : qs p c s o m = sg (c ^ 2 * y1 * x2) (o ^ 2 * y2 * x1) := by
    unfold qs
    rw [c1, c2, d1, d2]
    have e3 : c ^ 2 * (y1 * g1) * (x2 * g2) = c ^ 2 * y1 * x2 * (g1 * g2) := by
      rw [show c ^ 2 * (y1 * g1) * (x2 * g2) = (c ^ 2 * y1 * x2) * (g1 * g2) by
        simp only [Nat.mul_assoc, Nat.mul_left_comm]]
    have e4 : o ^ 2 * (y2 * g2) * (x1 * g1) = o ^ 2 * y2 * x1 * (g1 * g2) := by
      rw [show o ^ 2 * (y2 * g2) * (x1 * g1) = (o ^ 2 * y2 * x1) * (g1 * g2) by
        simp only [Nat.mul_assoc, Nat.mul_left_comm, Nat.mul_comm]]
    rw [e3, e4, sg_mul (Nat.mul_pos b1 b2)]
  rw [eq]
  have c2p : 0 < c ^ 2 := Nat.pow_pos hc
  have o2p : 0 < o ^ 2 := Nat.pow_pos ho
  by_cases hx1 : x1 = 0
  · have hy1 := z1 hx1
    by_cases hx2 : x2 = 0
    · have hy2 := z2 hx2
      simp [runFn, fn_sign_between, b_sign_between, finFn, evSs, evS, evE, evEs, evT, evTs, evB, evAny, q1, q2, g_ZERO, cv_eq, shp, shpL, eqv, eqvL, hx1, hx2, hy1, hy2, sg]
    · have : 0 < c ^ 2 * y1 * x2 := Nat.mul_pos (Nat.mul_pos c2p a1) (by omega)
      have e6 : sg (c ^ 2 * y1 * x2) (o ^ 2 * y2 * x1) = 1 := by
        unfold sg
        rw [hx1, Nat.mul_zero, if_neg (Nat.not_lt_zero _), if_pos this]
      rw [e6]
      simp [runFn, fn_sign_between, b_sign_between, finFn, evSs, evS, evE, evEs, evT, evTs, evB, evAny, q1, q2, g_ZERO, cv_eq, shp, shpL, eqv, eqvL, hx1, hx2, hy1]
  · by_cases hx2 : x2 = 0
    · have hy2 := z2 hx2
      have : 0 < o ^ 2 * y2 * x1 := Nat.mul_pos (Nat.mul_pos o2p a2) (by omega)
      have e6 : sg (c ^ 2 * y1 * x2) (o ^ 2 * y2 * x1) = -1 := by
        unfold sg
        rw [hx2, Nat.mul_zero, if_pos this]
      rw [e6]
      simp [runFn, fn_sign_between, b_sign_between, finFn, evSs, evS, evE, evEs, evT, evTs, evB, evAny, q1, q2, g_ZERO, cv_eq, shp, shpL, eqv, eqvL, hx1, hx2, hy2]
    · have p1 : powOk (c : Int) 2 = true := pow_ok (by omega) (by omega) (by simp; omega)
      have p2 : powOk (o : Int) 2 = true := pow_ok (by omega) (by omega) (by simp; omega)
      have m1 : mulOk ((c : Int) ^ 2) (y1 : Int) = true := mul_ok (small_nat (n := c ^ 2) cc (by omega)) (small_nat y1l (by omega))
      have m2 : mulOk ((o : Int) ^ 2) (y2 : Int) = true := mul_ok (small_nat (n := o ^ 2) oo (by omega)) (small_nat y2l (by omega))
      have m3 : mulOk ((c : Int) ^ 2 * y1) (x2 : Int) = true := mul_ok (small_nat (n := c ^ 2 * y1) (mul_lt_pow cc y1l) (by omega)) (small_nat x2l (by omega))
      have m4 : mulOk ((o : Int) ^ 2 * y2) (x1 : Int) = true := mul_ok (small_nat (n := o ^ 2 * y2) (mul_lt_pow oo y2l) (by omega)) (small_nat x1l (by omega))
      have q3 := sp_compared (n - 1) (by omega) ((c : Int) ^ 2 * y1) x1 ((o : Int) ^ 2 * y2) x2 h m3 m4
      have e5 : (if (c : Int) ^ 2 * y1 * x2 < (o : Int) ^ 2 * y2 * x1 then (-1 : Int) else if (o : Int) ^ 2 * y2 * x1 < (c : Int) ^ 2 * y1 * x2 then 1 else 0) = sg (c ^ 2 * y1 * x2) (o ^ 2 * y2 * x1) := by
        have i1 : (c : Int) ^ 2 * y1 * x2 = ((c ^ 2 * y1 * x2 : Nat) : Int) := by simp
        have i2 : (o : Int) ^ 2 * y2 * x1 = ((o ^ 2 * y2 * x1 : Nat) : Int) := by simp
        rw [i1, i2]
        unfold sg
        simp only [Int.ofNat_lt]
      rw [e5] at q3
      simp [runFn, fn_sign_between, b_sign_between, finFn, evSs, evS, evE, evEs, evT, evTs, evB, evAny, q1, q2, g_ZERO, cv_eq, shp, shpL, eqv, eqvL, hx1, hx2, p1, p2, m1, m2, q3]
end G
set_option Elab.async false
set_option linter.all false
set_option maxRecDepth 100000
/-! S3: greatest_next, least_given. -/
namespace MM
/-- a loop by a state -/
theorem forL_fold {S : Type} {tg : MV → MEnv → MH → Res MEnv} {b : MEnv → MH → Res (Fl × MEnv)} (mk : S → MEnv) (hp : S → MH) (step : MV → S → S) (I : List MV → S → Prop)
    (hs : ∀ x r s, I (x :: r) s → ∃ e1, tg x (mk s) (hp s) = .ok e1 (hp s) ∧ b e1 (hp s) = .ok (.nx, mk (step x s)) (hp (step x s)) ∧ I r (step x s)) :
    ∀ (xs : List MV) (s : S), I xs s → forL tg b (fun _ => true) xs (mk s) (hp s) = .ok (.nx, mk (xs.foldl (fun s x => step x s) s)) (hp (xs.foldl (fun s x => step x s) s)) ∧ I [] (xs.foldl (fun s x => step x s) s)
  | [], s, h0 => ⟨rfl, h0⟩
  | x :: xs, s, h0 => by
    obtain ⟨e1, h1, h2, h3⟩ := hs x xs s h0
    have ih := forL_fold mk hp step I hs xs (step x s) h3
    refine ⟨?_, ih.2⟩
    rw [forL_cons, h1]
    show ((b e1 (hp s)).bind fun fe h2 => match fe.1 with
      | .nx => if true then forL tg b (fun _ => true) xs fe.2 h2 else .bad
      | .ct => if true then forL tg b (fun _ => true) xs fe.2 h2 else .bad
      | .bk => .ok (.nx, fe.2) h2
      | .rt v => .ok (.rt v, fe.2) h2) = _
    rw [h2]
    exact ih.1
end MM
namespace G
open PySem MM
def natM (n : Nat) : MV := .int (n : Int)
def optM : Option Nat → MV
  | none => .non
  | some i => .int (i : Int)
def pairM (p : Nat × Nat) : MV := .tup [.int (p.1 : Int), .int (p.2 : Int)]
def selS (ok : Nat → Bool) (better : Nat → Nat → Bool) (i : Nat) (b : Option Nat) : Option Nat := if ok i then (match b with | none => some i | some j => if better i j then some i else some j) else b
/-- the first that no other beats, by a walk -/
def sel (ok : Nat → Bool) (better : Nat → Nat → Bool) : List Nat → Option Nat → Option Nat
  | [], b => b
  | i :: r, b => sel ok better r (selS ok better i b)
theorem at_map {α : Type} (f : α → MV) {xs : List α} {i : Nat} {x : α} (h : xs[i]? = some x) : L2.atI (xs.map f) (i : Int) = some (f x) := at_n _ i _ (by rw [List.getElem?_map, h]; rfl)
theorem enumM_cons (k : Nat) (x : MV) (xs : List MV) : enumM k (x :: xs) = .tup [.int k, x] :: enumM (k + 1) xs := rfl
section
variable {n : Nat} {p : Post} {cl : List Nat} {bd : List (Nat × Nat)} {row : List Nat} {R : MV} {h : MH}
/-- what a row may be: a cell or a tuple -/
def RowAt (R : MV) (row : List Nat) (h : MH) : Prop := ∀ (i x : Nat), row[i]? = some x → ixV R (.int (i : Int)) h = .ok (.int (x : Int)) h
structure Rows (p : Post) (cl : List Nat) (bd : List (Nat × Nat)) (row : List Nat) : Prop where
  post : p.Ok
  lb : bd.length = cl.length
  lr : row.length = cl.length
  cle : ∀ c ∈ cl, c ≤ 10 ^ 6
  rle : ∀ s ∈ row, s ≤ 1000
def gOk (cl : List Nat) (bd : List (Nat × Nat)) (row : List Nat) (i : Nat) : Bool := decide (0 < cl.getD i 0) && decide (row.getD i 0 < (bd.getD i (0, 0)).2)
def gBet (p : Post) (cl row : List Nat) (i j : Nat) : Bool := decide (0 < qs p (cl.getD i 0) (row.getD i 0) (cl.getD j 0) (row.getD j 0))
theorem get_of {α : Type} {xs : List α} {i : Nat} (d : α) (h : i < xs.length) : xs[i]? = some (xs.getD i d) := by
  rw [List.getD_eq_getElem?_getD, List.getElem?_eq_getElem h]; rfl
theorem mem_getD {α : Type} {xs : List α} {i : Nat} (d : α) (h : i < xs.length) : xs.getD i d ∈ xs := List.mem_of_getElem? (get_of d h)
abbrev SG := Option Nat × Option MV × Option MV
def mkG (p : Post) (cl : List Nat) (bd : List (Nat × Nat)) (R : MV) (s : SG) : MEnv := [some (.tup (cl.map natM)), some p.mv, some (.tup (bd.map pairM)), some R, some (optM s.1), s.2.1, s.2.2]
def bodyG : List MS := [(.ifS (.all (.cons (.val (.cmp .gt (.var 6) (.int 0))) (.cons (.val (.cmp .lt (.ix (.var 3) (.var 5)) (.ix (.ix (.var 2) (.var 5)) (.int 1)))) .nil))) [(.ifS (.any (.cons (.val (.isN (.var 4))) (.cons (.val (.cmp .gt (.call 68 (.cons (.var 1) (.cons (.var 6) (.cons (.ix (.var 3) (.var 5)) (.cons (.ix (.var 0) (.var 4)) (.cons (.ix (.var 3) (.var 4)) .nil)))))) (.int 0))) .nil))) [(.asg (.nm 4) (.var 5))] [])] [])]
theorem g_step (hn : 5 ≤ n) (V : Rows p cl bd row) (hR : RowAt R row h) {i : Nat} (hi : i < cl.length) {b : Option Nat} (hb : ∀ j, b = some j → j < cl.length ∧ 0 < cl.getD j 0) :
    evSs none (callK none T (n - 1)) bodyG (mkG p cl bd R (b, some (.int (i : Int)), some (natM (cl.getD i 0)))) h = .ok (.nx, mkG p cl bd R (selS (gOk cl bd row) (gBet p cl row) i b, some (.int (i : Int)), some (natM (cl.getD i 0)))) h := by
  have er := get_of (xs := row) 0 (show i < row.length by rw [V.lr]; exact hi)
  have eb := get_of (xs := bd) (0, 0) (show i < bd.length by rw [V.lb]; exact hi)
  have c6 : cl.getD i 0 ≤ 10 ^ 6 := V.cle _ (mem_getD 0 hi)
  have r3 : row.getD i 0 ≤ 1000 := V.rle _ (mem_getD 0 (by rw [V.lr]; exact hi))
  have hrow := hR _ _ er
  have hbd := at_map pairM eb
  generalize hc : cl.getD i 0 = c at *
  generalize hs : row.getD i 0 = s at *
  generalize hB : bd.getD i (0, 0) = B at *
  by_cases k1 : 0 < c
  · by_cases k2 : s < B.2
    · have gk : gOk cl bd row i = true := by unfold gOk; rw [hc, hs, hB]; simp only [k1, k2, decide_true, Bool.and_self]
      cases b with
      | none =>
        have se : selS (gOk cl bd row) (gBet p cl row) i none = some i := by simp only [selS, gk, if_true]
        rw [se]
        simp [mkG, bodyG, evT, evTs, evSs, evS, evB, evAll, evAny, evE, evEs, natM, optM, k1, k2, hrow, hbd, pairM]
      | some j =>
        obtain ⟨hj1, hj2⟩ := hb j rfl
        have ej := get_of (xs := cl) 0 hj1
        have erj := get_of (xs := row) 0 (show j < row.length by rw [V.lr]; exact hj1)
        have hclj := at_map natM ej
        have hrowj := hR _ _ erj
        have sb := sp_sign_between (n - 1) (by omega) p V.post c s (cl.getD j 0) (row.getD j 0) k1 c6 hj2 (V.cle _ (mem_getD 0 hj1)) r3 (V.rle _ (mem_getD 0 (by rw [V.lr]; exact hj1))) h
        have ge : gBet p cl row i j = decide (0 < qs p c s (cl.getD j 0) (row.getD j 0)) := by unfold gBet; rw [hc, hs]
        generalize cl.getD j 0 = cj at *
        generalize row.getD j 0 = sj at *
        by_cases k3 : 0 < qs p c s cj sj
        · have se : selS (gOk cl bd row) (gBet p cl row) i (some j) = some i := by simp [selS, gk, ge, k3]
          rw [se]
          simp [mkG, bodyG, evT, evTs, evSs, evS, evB, evAll, evAny, evE, evEs, natM, optM, k1, k2, hrow, hbd, pairM, hclj, hrowj, sb, k3]
        · have se : selS (gOk cl bd row) (gBet p cl row) i (some j) = some j := by simp [selS, gk, ge, k3]
          rw [se]
          simp [mkG, bodyG, evT, evTs, evSs, evS, evB, evAll, evAny, evE, evEs, natM, optM, k1, k2, hrow, hbd, pairM, hclj, hrowj, sb, k3]
    · have gk : gOk cl bd row i = false := by unfold gOk; rw [hc, hs, hB]; simp [k2]
      have se : selS (gOk cl bd row) (gBet p cl row) i b = b := by simp [selS, gk]
      rw [se]
      simp [mkG, bodyG, evT, evTs, evSs, evS, evB, evAll, evAny, evE, evEs, natM, k1, k2, hrow, hbd, pairM]
  · have gk : gOk cl bd row i = false := by unfold gOk; rw [hc]; simp [k1]
    have se : selS (gOk cl bd row) (gBet p cl row) i b = b := by simp [selS, gk]
    rw [se]
    simp [mkG, bodyG, evT, evTs, evSs, evS, evB, evAll, evAny, evE, evEs, natM, k1]
theorem sel_append (ok : Nat → Bool) (bt : Nat → Nat → Bool) : ∀ (l m : List Nat) (b : Option Nat), sel ok bt (l ++ m) b = sel ok bt m (sel ok bt l b)
  | [], _, _ => rfl
  | _ :: l, m, b => sel_append ok bt l m _
theorem sel_range (ok : Nat → Bool) (bt : Nat → Nat → Bool) (k : Nat) : sel ok bt (List.range (k + 1)) none = selS ok bt k (sel ok bt (List.range k) none) := by
  rw [List.range_succ, sel_append]
  rfl
/-- the one picked is allowed -/
theorem sel_ok (ok : Nat → Bool) (bt : Nat → Nat → Bool) : ∀ (l : List Nat) (b : Option Nat) (j : Nat), sel ok bt l b = some j → (ok j = true ∧ j ∈ l) ∨ b = some j
  | [], _, _, h => .inr h
  | i :: l, b, j, h => by
    rcases sel_ok ok bt l (selS ok bt i b) j h with h | h
    · exact .inl ⟨h.1, List.mem_cons_of_mem _ h.2⟩
    · unfold selS at h
      split at h
      · rename_i hi
        cases b with
        | none => cases h; exact .inl ⟨hi, List.mem_cons_self⟩
        | some k =>
          dsimp only at h
          split at h
          · cases h; exact .inl ⟨hi, List.mem_cons_self⟩
          · exact .inr h
      · exact .inr h
def stepG (ok : Nat → Bool) (bt : Nat → Nat → Bool) (x : MV) (s : SG) : SG := match x with
  | .tup [.int i, c] => (selS ok bt i.toNat s.1, some (.int i), some c)
  | _ => s
theorem sp_greatest_next (hn : 5 ≤ n) (V : Rows p cl bd row) (hR : RowAt R row h) : callK none T n 69 [.tup (cl.map natM), p.mv, .tup (bd.map pairM), R] h = .ok (optM (sel (gOk cl bd row) (gBet p cl row) (List.range cl.length) none)) h := by
  rw [call_at T_greatest_next (by omega)]
  obtain ⟨h1, pre, rest, e1, e2, e3⟩ := forL_fold (tg := fun x e h => evT (callK none T (n - 1)) (.tup (.cons (.nm 5) (.cons (.nm 6) .nil))) x e h) (b := fun e h => evSs none (callK none T (n - 1)) bodyG e h) (mkG p cl bd R) (fun _ => h) (stepG (gOk cl bd row) (gBet p cl row))
    (fun r s => ∃ pre rest, cl = pre ++ rest ∧ r = enumM pre.length (rest.map natM) ∧ s.1 = sel (gOk cl bd row) (gBet p cl row) (List.range pre.length) none) (fun x r s ⟨pre, rest, e1, e2, e3⟩ => by
      cases rest with
      | nil => cases e2
      | cons c rest =>
        obtain ⟨e4, e5⟩ := List.cons.inj e2
        subst e4
        obtain ⟨b, x5, x6⟩ := s
        have hi : pre.length < cl.length := by rw [e1]; simp
        have ec : cl.getD pre.length 0 = c := by rw [e1]; simp
        refine ⟨mkG p cl bd R (b, some (.int pre.length), some (natM c)), by simp [evT, evTs, mkG], ?_, pre ++ [c], rest, by rw [e1]; simp, by rw [e5]; simp, ?_⟩
        · have hb : ∀ j, b = some j → j < cl.length ∧ 0 < cl.getD j 0 := fun j hj => by
            have e3 : b = _ := e3
            rw [e3] at hj
            rcases sel_ok _ _ _ _ _ hj with ⟨q1, q2⟩ | q
            · have : j < pre.length := List.mem_range.mp q2
              unfold gOk at q1
              rw [Bool.and_eq_true, decide_eq_true_eq] at q1
              exact ⟨by omega, q1.1⟩
            · cases q
          have q := g_step hn V hR hi hb
          rw [ec] at q
          exact q
        · show selS _ _ ((pre.length : Int).toNat) b = _
          rw [List.length_append, List.length_singleton, sel_range, ← e3]
          rfl) (enumM 0 (cl.map natM)) (none, none, none) ⟨[], cl, rfl, rfl, rfl⟩
  have e4 : rest = [] := by
    cases rest with
    | nil => rfl
    | cons c r => cases e2
  subst e4
  rw [List.append_nil] at e1
  subst e1
  have key : runFn none (callK none T (n - 1)) fn_greatest_next [.tup (cl.map natM), p.mv, .tup (bd.map pairM), R] h = finFn false h ((forL (fun x e h => evT (callK none T (n - 1)) (.tup (.cons (.nm 5) (.cons (.nm 6) .nil))) x e h) (fun e h => evSs none (callK none T (n - 1)) bodyG e h) (fun _ => true) (enumM 0 (cl.map natM)) (mkG p cl bd R (none, none, none)) h).bind fun fe h1 => match fe.1 with
    | .nx => evSs none (callK none T (n - 1)) [.ret (.var 4)] fe.2 h1
    | _ => .ok fe h1) := rfl
  rw [key, h1, ← e3]
  rfl
end
end G
set_option Elab.async false
set_option linter.all false
set_option maxRecDepth 100000
/-! S4: least_given. -/
namespace G
open PySem MM
section
variable {n : Nat} {p : Post} {cl : List Nat} {bd : List (Nat × Nat)} {row : List Nat} {R : MV} {h : MH}
def lOk (cl : List Nat) (bd : List (Nat × Nat)) (row : List Nat) (i : Nat) : Bool := decide (0 < cl.getD i 0) && decide ((bd.getD i (0, 0)).1 < row.getD i 0)
def lBet (p : Post) (cl row : List Nat) (i j : Nat) : Bool := decide (qs p (cl.getD i 0) (row.getD i 0 - 1) (cl.getD j 0) (row.getD j 0 - 1) < 0)
def bodyL : List MS := [(.ifS (.all (.cons (.val (.cmp .gt (.var 6) (.int 0))) (.cons (.val (.cmp .gt (.ix (.var 3) (.var 5)) (.ix (.ix (.var 2) (.var 5)) (.int 0)))) .nil))) [(.ifS (.any (.cons (.val (.isN (.var 4))) (.cons (.val (.cmp .lt (.call 68 (.cons (.var 1) (.cons (.var 6) (.cons (.bin .sub (.ix (.var 3) (.var 5)) (.int 1)) (.cons (.ix (.var 0) (.var 4)) (.cons (.bin .sub (.ix (.var 3) (.var 4)) (.int 1)) .nil)))))) (.int 0))) .nil))) [(.asg (.nm 4) (.var 5))] [])] [])]
theorem sub1 {s k : Nat} (h : k < s) : ((s : Int) - 1) = ((s - 1 : Nat) : Int) := by omega
theorem l_step (hn : 5 ≤ n) (V : Rows p cl bd row) (hR : RowAt R row h) {i : Nat} (hi : i < cl.length) {b : Option Nat} (hb : ∀ j, b = some j → j < cl.length ∧ 0 < cl.getD j 0 ∧ 0 < row.getD j 0) :
    evSs none (callK none T (n - 1)) bodyL (mkG p cl bd R (b, some (.int (i : Int)), some (natM (cl.getD i 0)))) h = .ok (.nx, mkG p cl bd R (selS (lOk cl bd row) (lBet p cl row) i b, some (.int (i : Int)), some (natM (cl.getD i 0)))) h := by
  have er := get_of (xs := row) 0 (show i < row.length by rw [V.lr]; exact hi)
  have eb := get_of (xs := bd) (0, 0) (show i < bd.length by rw [V.lb]; exact hi)
  have c6 : cl.getD i 0 ≤ 10 ^ 6 := V.cle _ (mem_getD 0 hi)
  have r3 : row.getD i 0 ≤ 1000 := V.rle _ (mem_getD 0 (by rw [V.lr]; exact hi))
  have hrow := hR _ _ er
  have hbd := at_map pairM eb
  generalize hc : cl.getD i 0 = c at *
  generalize hs : row.getD i 0 = s at *
  generalize hB : bd.getD i (0, 0) = B at *
  by_cases k1 : 0 < c
  · by_cases k2 : B.1 < s
    · have gk : lOk cl bd row i = true := by unfold lOk; rw [hc, hs, hB]; simp only [k1, k2, decide_true, Bool.and_self]
      cases b with
      | none =>
        have se : selS (lOk cl bd row) (lBet p cl row) i none = some i := by simp only [selS, gk, if_true]
        rw [se]
        simp [mkG, bodyL, evT, evTs, evSs, evS, evB, evAll, evAny, evE, evEs, natM, optM, k1, k2, hrow, hbd, pairM]
      | some j =>
        obtain ⟨hj1, hj2, hj3⟩ := hb j rfl
        have ej := get_of (xs := cl) 0 hj1
        have erj := get_of (xs := row) 0 (show j < row.length by rw [V.lr]; exact hj1)
        have hclj := at_map natM ej
        have hrowj := hR _ _ erj
        have rj := V.rle _ (mem_getD 0 (show j < row.length by rw [V.lr]; exact hj1))
        have sb := sp_sign_between (n - 1) (by omega) p V.post c (s - 1) (cl.getD j 0) (row.getD j 0 - 1) k1 c6 hj2 (V.cle _ (mem_getD 0 hj1)) (by omega) (by omega) h
        have ge : lBet p cl row i j = decide (qs p c (s - 1) (cl.getD j 0) (row.getD j 0 - 1) < 0) := by unfold lBet; rw [hc, hs]
        rw [← sub1 k2, ← sub1 hj3] at sb
        generalize cl.getD j 0 = cj at *
        generalize row.getD j 0 = sj at *
        by_cases k3 : qs p c (s - 1) cj (sj - 1) < 0
        · have se : selS (lOk cl bd row) (lBet p cl row) i (some j) = some i := by simp [selS, gk, ge, k3]
          rw [se]
          simp [mkG, bodyL, evT, evTs, evSs, evS, evB, evAll, evAny, evE, evEs, natM, optM, k1, k2, hrow, hbd, pairM, hclj, hrowj, sb, k3]
        · have se : selS (lOk cl bd row) (lBet p cl row) i (some j) = some j := by simp [selS, gk, ge, k3]
          rw [se]
          simp [mkG, bodyL, evT, evTs, evSs, evS, evB, evAll, evAny, evE, evEs, natM, optM, k1, k2, hrow, hbd, pairM, hclj, hrowj, sb, k3]
    · have gk : lOk cl bd row i = false := by unfold lOk; rw [hc, hs, hB]; simp [k2]
      have se : selS (lOk cl bd row) (lBet p cl row) i b = b := by simp [selS, gk]
      rw [se]
      simp [mkG, bodyL, evT, evTs, evSs, evS, evB, evAll, evAny, evE, evEs, natM, k1, k2, hrow, hbd, pairM]
  · have gk : lOk cl bd row i = false := by unfold lOk; rw [hc]; simp [k1]
    have se : selS (lOk cl bd row) (lBet p cl row) i b = b := by simp [selS, gk]
    rw [se]
    simp [mkG, bodyL, evT, evTs, evSs, evS, evB, evAll, evAny, evE, evEs, natM, k1]
theorem sp_least_given (hn : 5 ≤ n) (V : Rows p cl bd row) (hR : RowAt R row h) : callK none T n 70 [.tup (cl.map natM), p.mv, .tup (bd.map pairM), R] h = .ok (optM (sel (lOk cl bd row) (lBet p cl row) (List.range cl.length) none)) h := by
  rw [call_at T_least_given (by omega)]
  obtain ⟨h1, pre, rest, e1, e2, e3⟩ := forL_fold (tg := fun x e h => evT (callK none T (n - 1)) (.tup (.cons (.nm 5) (.cons (.nm 6) .nil))) x e h) (b := fun e h => evSs none (callK none T (n - 1)) bodyL e h) (mkG p cl bd R) (fun _ => h) (stepG (lOk cl bd row) (lBet p cl row))
    (fun r s => ∃ pre rest, cl = pre ++ rest ∧ r = enumM pre.length (rest.map natM) ∧ s.1 = sel (lOk cl bd row) (lBet p cl row) (List.range pre.length) none) (fun x r s ⟨pre, rest, e1, e2, e3⟩ => by
      cases rest with
      | nil => cases e2
      | cons c rest =>
        obtain ⟨e4, e5⟩ := List.cons.inj e2
        subst e4
        obtain ⟨b, x5, x6⟩ := s
        have hi : pre.length < cl.length := by rw [e1]; simp
        have ec : cl.getD pre.length 0 = c := by rw [e1]; simp
        refine ⟨mkG p cl bd R (b, some (.int pre.length), some (natM c)), by simp [evT, evTs, mkG], ?_, pre ++ [c], rest, by rw [e1]; simp, by rw [e5]; simp, ?_⟩
        · have hb : ∀ j, b = some j → j < cl.length ∧ 0 < cl.getD j 0 ∧ 0 < row.getD j 0 := fun j hj => by
            have e3 : b = _ := e3
            rw [e3] at hj
            rcases sel_ok _ _ _ _ _ hj with ⟨q1, q2⟩ | q
            · have : j < pre.length := List.mem_range.mp q2
              unfold lOk at q1
              rw [Bool.and_eq_true, decide_eq_true_eq, decide_eq_true_eq] at q1
              exact ⟨by omega, q1.1, by omega⟩
            · cases q
          have q := l_step hn V hR hi hb
          rw [ec] at q
          exact q
        · show selS _ _ ((pre.length : Int).toNat) b = _
          rw [List.length_append, List.length_singleton, sel_range, ← e3]
          rfl) (enumM 0 (cl.map natM)) (none, none, none) ⟨[], cl, rfl, rfl, rfl⟩
  have e4 : rest = [] := by
    cases rest with
    | nil => rfl
    | cons c r => cases e2
  subst e4
  rw [List.append_nil] at e1
  subst e1
  have key : runFn none (callK none T (n - 1)) fn_least_given [.tup (cl.map natM), p.mv, .tup (bd.map pairM), R] h = finFn false h ((forL (fun x e h => evT (callK none T (n - 1)) (.tup (.cons (.nm 5) (.cons (.nm 6) .nil))) x e h) (fun e h => evSs none (callK none T (n - 1)) bodyL e h) (fun _ => true) (enumM 0 (cl.map natM)) (mkG p cl bd R (none, none, none)) h).bind fun fe h1 => match fe.1 with
    | .nx => evSs none (callK none T (n - 1)) [.ret (.var 4)] fe.2 h1
    | _ => .ok fe h1) := rfl
  rw [key, h1, ← e3]
  rfl
end
end G
set_option Elab.async false
set_option linter.all false
set_option maxRecDepth 100000
/-! S5: with_more. -/
namespace G
open PySem MM
def rowM (r : List Nat) : MV := .tup (r.map natM)
/-- base with one more at so many of the places, every choice -/
def wm : List Nat → List Nat → Nat → List (List Nat)
  | base, _, 0 => [base]
  | _, [], _ + 1 => []
  | base, i :: r, m + 1 => if r.length < m then [] else wm (base.set i (base.getD i 0 + 1)) r m ++ wm base r (m + 1)
theorem wm_len : ∀ (ps : List Nat) (base : List Nat) (m : Nat), (wm base ps m).length ≤ 2 ^ ps.length
  | [], base, 0 => by simp [wm]
  | [], base, m + 1 => by simp [wm]
  | i :: r, base, 0 => by simp only [wm, List.length_singleton]; exact Nat.one_le_two_pow
  | i :: r, base, m + 1 => by
    have h1 := wm_len r (base.set i (base.getD i 0 + 1)) m
    have h2 := wm_len r base (m + 1)
    simp only [wm]
    split
    · simp
    · rw [List.length_append, List.length_cons, Nat.pow_succ]
      omega
theorem cut_to (xs : List MV) (k : Nat) : cutM xs none (some (k : Int)) = xs.take k := by
  unfold cutM
  rw [HT.sIx_none, HT.sIx_nat]
  simp
theorem cut_from (xs : List MV) (k : Nat) : cutM xs (some (k : Int)) none = xs.drop k := by
  unfold cutM
  rw [HT.sIx_none, HT.sIx_nat]
  by_cases h : k ≤ xs.length
  · rw [Nat.min_eq_left h]
    exact List.take_of_length_le (by simp)
  · rw [Nat.min_eq_right (by omega), List.drop_of_length_le (by omega), List.drop_of_length_le (by omega)]
    simp
theorem cut_from1 (xs : List MV) (k : Nat) : cutM xs (some ((k : Int) + 1)) none = xs.drop (k + 1) := cut_from xs (k + 1)
theorem cut_tail (x : MV) (xs : List MV) : cutM (x :: xs) (some 1) none = xs := cut_from (x :: xs) 1
@[simp] theorem sl_t (xs : List MV) (lo hi : Option Int) (h : MH) : slV (.tup xs) lo hi h = .ok (.tup (cutM xs lo hi)) h := rfl
theorem set_cut (xs : List Nat) (i x : Nat) (h : i < xs.length) : (xs.map natM).take i ++ [natM x] ++ (xs.map natM).drop (i + 1) = (xs.set i x).map natM := by
  rw [List.set_eq_take_append_cons_drop, if_pos h]
  simp
theorem sp_with_more : ∀ (ps : List Nat) (n : Nat) (base : List Nat) (m : Nat) (h : MH), ps.length + 1 ≤ n → ps.length ≤ 16 → base.length ≤ 1000 → (∀ i ∈ ps, i < base.length) →
    callK none T n 71 [rowM base, .lst (ps.map natM), natM m] h = .ok (.lst ((wm base ps m).map rowM)) h
  | [], n, base, 0, h, hn, _, _, _ => by
    rw [call_at T_with_more (by omega)]
    simp [runFn, fn_with_more, b_with_more, finFn, evSs, evS, evE, evEs, evF, evB, wm, natM]
  | [], n, base, m + 1, h, hn, _, _, _ => by
    rw [call_at T_with_more (by omega)]
    have e : ¬ ((m : Int) + 1 = 0) := by omega
    have e2 : (0 : Int) < (m : Int) + 1 := by omega
    simp [runFn, fn_with_more, b_with_more, finFn, evSs, evS, evE, evEs, evF, evB, wm, natM, e, e2]
  | i :: r, n, base, 0, h, hn, _, _, _ => by
    rw [call_at T_with_more (by omega)]
    simp [runFn, fn_with_more, b_with_more, finFn, evSs, evS, evE, evEs, evF, evB, wm, natM]
  | i :: r, n, base, m + 1, h, hn, hl, hb, hi => by
    rw [call_at T_with_more (by omega)]
    have hlen : (i :: r).length = r.length + 1 := rfl
    have e : ¬ ((m : Int) + 1 = 0) := by omega
    have hib : i < base.length := hi i List.mem_cons_self
    have ih1 := sp_with_more r (n - 1) (base.set i (base.getD i 0 + 1)) m h (by omega) (by omega) (by simpa using hb) (fun j hj => by simpa using hi j (List.mem_cons_of_mem _ hj))
    have ih2 := sp_with_more r (n - 1) base (m + 1) h (by omega) (by omega) hb (fun j hj => hi j (List.mem_cons_of_mem _ hj))
    have hat := at_map natM (get_of (xs := base) 0 hib)
    have sc := set_cut base i (base.getD i 0 + 1) hib
    by_cases c : r.length < m
    · have e2 : ((r.length : Int) + 1) < (m : Int) + 1 := by omega
      simp [runFn, fn_with_more, b_with_more, finFn, evSs, evS, evE, evEs, evF, evB, wm, natM, e, e2, c]
    · have e2 : ¬ ((r.length : Int) + 1) < (m : Int) + 1 := by omega
      have sc' : (base.map natM).take i ++ MV.int ((base.getD i 0 : Nat) + 1 : Int) :: (base.map natM).drop (i + 1) = (base.set i (base.getD i 0 + 1)).map natM := by
        rw [← sc]
        simp [natM]
      have l1 := wm_len r (base.set i (base.getD i 0 + 1)) m
      have l2 := wm_len r base (m + 1)
      have l3 : 2 ^ r.length ≤ 2 ^ 16 := Nat.pow_le_pow_right (by omega) (by omega)
      have lt : ((base.map natM).take i).length = i := by simp; omega
      have ld : ((base.map natM).drop (i + 1)).length = base.length - (i + 1) := by simp
      have hv0 : base[i]?.getD 0 = base.getD i 0 := (List.getD_eq_getElem?_getD ..).symm
      generalize base.getD i 0 = v at *
      simp only [rowM] at ih1 ih2
      have k1 : lenOk (i + 1) = true := len_ok (by omega)
      have k2 : lenOk (i + 1 + (base.length - (i + 1))) = true := len_ok (by omega)
      have k3 : lenOk ((wm (base.set i (v + 1)) r m).length + (wm base r (m + 1)).length) = true := len_ok (by omega)
      have mi : min i base.length = i := by omega
      have ih1' : callK none T (n - 1) 71 [.tup ((base.map natM).set i (.int ((v : Int) + 1))), .lst (r.map natM), .int (m : Int)] h = .ok (.lst ((wm (base.set i (v + 1)) r m).map rowM)) h := by
        rw [List.map_set] at ih1
        exact ih1
      have ih2' : callK none T (n - 1) 71 [.tup (base.map natM), .lst (r.map natM), .int ((m : Int) + 1)] h = .ok (.lst ((wm base r (m + 1)).map rowM)) h := ih2
      simp [runFn, fn_with_more, b_with_more, finFn, evSs, evS, evE, evEs, evF, evB, evO, evT, evTs, wm, natM, rowM, ih1', ih2', e, e2, c, hat, cut_to, cut_from1, cut_tail, sc', k1, k2, k3, mi, hv0]
end G
set_option Elab.async false
set_option linter.all false
set_option maxRecDepth 100000
/-! P1: rules for comprehensions and loops. -/
namespace MM
open PySem PySem.Spec PyProof.Rows L2
theorem nox_ok' {α : Type} (a : α) (h : MH) : (Res.ok a h).nox = .ok a h := rfl
theorem comp_turns {tg : MV → MEnv → MH → Res MEnv} {c : MEnv → MH → Res Bool} {inner : MEnv → MH → Res (List MV)} {e : MEnv} {h : MH} {stay : MH → Bool} {α : Type} (f : α → MV) (p : α → Bool) (g : α → MV) (hst : stay h = true) : ∀ xs : List α,
    (∀ x ∈ xs, ∃ e1, tg (f x) e h = .ok e1 h ∧ c e1 h = .ok (p x) h ∧ (p x = true → inner e1 h = .ok [g x] h)) →
    compL2 tg c inner e stay (xs.map f) h = .ok ((xs.filter p).map g) h
  | [], _ => rfl
  | x :: xs, hx => by
    obtain ⟨e1, h1, h2, h3⟩ := hx x List.mem_cons_self
    have ih := comp_turns f p g hst xs fun y hy => hx y (List.mem_cons_of_mem _ hy)
    rw [List.map_cons, compL2_cons, h1, Res.bind_ok, h2, Res.bind_ok]
    cases hp : p x with
    | false => simp [hp, ih, hst]
    | true => simp [hp, h3 hp, ih, hst]
/-- a comprehension over what is made of xs, that leaves the cells alone -/
theorem comp_map {G : Callee} {own : List Nat} {tg : MT} {it : MI} {c : MB} {elt : ME} {e : MEnv} {h : MH} {α : Type} (xs : List α) (f : α → MV) (p : α → Bool) (g : α → MV) (hi : evI G it e h = .ok ⟨xs.map f, none⟩ h)
    (ht : ∀ x ∈ xs, ∃ e1, evT G tg (f x) (wipeM e own) h = .ok e1 h ∧ evB G c e1 h = .ok (p x) h ∧ (p x = true → evE G elt e1 h = .ok (g x) h)) (hl : xs.length ≤ 16000000) :
    evF G (.comp own tg it c elt) e h = .ok ((xs.filter p).map g) h := by
  have k := comp_turns (tg := fun x e h => evT G tg x e h) (c := fun e h => evB G c e h) (inner := fun e h => (evE G elt e h).bind fun v h => .ok [v] h) (e := wipeM e own) (h := h) (stay := (Src.mk (xs.map f) none).stays) f p g rfl xs (fun x hx => by
    obtain ⟨e1, h1, h2, h3⟩ := ht x hx
    exact ⟨e1, h1, h2, fun hp => by show (evE G elt e1 h).bind _ = _; rw [h3 hp]; rfl⟩)
  show ((evI G it e h).bind fun s h1 => ((compL2 (fun x e h => evT G tg x e h) (fun e h => evB G c e h) (fun e h => (evE G elt e h).bind fun v h => .ok [v] h) (wipeM e own) s.stays s.items h1).bind fun vs h2 => okIf (lenOk vs.length) vs h2).nox) = _
  rw [hi]
  show ((compL2 (fun x e h => evT G tg x e h) (fun e h => evB G c e h) (fun e h => (evE G elt e h).bind fun v h => .ok [v] h) (wipeM e own) (Src.mk (xs.map f) none).stays (xs.map f) h).bind fun vs h2 => okIf (lenOk vs.length) vs h2).nox = _
  rw [k]
  have : lenOk ((xs.filter p).map g).length = true := len_ok (by rw [List.length_map]; exact Nat.le_trans (List.length_filter_le _ _) hl)
  rw [Res.bind_ok, this]
  rfl
/-- the same over a cell that stays -/
theorem comp_cell {G : Callee} {own : List Nat} {tg : MT} {it : MI} {c : MB} {elt : ME} {e : MEnv} {h : MH} {α : Type} (xs : List α) (f : α → MV) (p : α → Bool) (g : α → MV) (s : Src) (hi : evI G it e h = .ok s h) (hs : s.items = xs.map f) (hst : s.stays h = true)
    (ht : ∀ x ∈ xs, ∃ e1, evT G tg (f x) (wipeM e own) h = .ok e1 h ∧ evB G c e1 h = .ok (p x) h ∧ (p x = true → evE G elt e1 h = .ok (g x) h)) (hl : xs.length ≤ 16000000) :
    evF G (.comp own tg it c elt) e h = .ok ((xs.filter p).map g) h := by
  have k := comp_turns (tg := fun x e h => evT G tg x e h) (c := fun e h => evB G c e h) (inner := fun e h => (evE G elt e h).bind fun v h => .ok [v] h) (e := wipeM e own) (h := h) (stay := s.stays) f p g hst xs (fun x hx => by
    obtain ⟨e1, h1, h2, h3⟩ := ht x hx
    exact ⟨e1, h1, h2, fun hp => by show (evE G elt e1 h).bind _ = _; rw [h3 hp]; rfl⟩)
  show ((evI G it e h).bind fun s h1 => ((compL2 (fun x e h => evT G tg x e h) (fun e h => evB G c e h) (fun e h => (evE G elt e h).bind fun v h => .ok [v] h) (wipeM e own) s.stays s.items h1).bind fun vs h2 => okIf (lenOk vs.length) vs h2).nox) = _
  rw [hi]
  show ((compL2 (fun x e h => evT G tg x e h) (fun e h => evB G c e h) (fun e h => (evE G elt e h).bind fun v h => .ok [v] h) (wipeM e own) s.stays s.items h).bind fun vs h2 => okIf (lenOk vs.length) vs h2).nox = _
  rw [hs, k]
  have : lenOk ((xs.filter p).map g).length = true := len_ok (by rw [List.length_map]; exact Nat.le_trans (List.length_filter_le _ _) hl)
  rw [Res.bind_ok, this]
  rfl
theorem comp_turns_st {tg : MV → MEnv → MH → Res MEnv} {c : MEnv → MH → Res Bool} {inner : MEnv → MH → Res (List MV)} {e : MEnv} {stay : MH → Bool} {α β : Type} (f : α → MV) (g : β → MV) (I : MH → Prop) (P : α → β → Prop) (hst : ∀ h, I h → stay h = true) : ∀ (xs : List α) (h : MH), I h →
    (∀ x ∈ xs, ∀ h, I h → ∃ e1 h1 y, tg (f x) e h = .ok e1 h ∧ c e1 h = .ok true h ∧ inner e1 h = .ok [g y] h1 ∧ P x y ∧ I h1) →
    ∃ (ys : List β) (h1 : MH), compL2 tg c inner e stay (xs.map f) h = .ok (ys.map g) h1 ∧ I h1 ∧ ys.length = xs.length ∧ ∀ (k : Nat) (x : α) (y : β), xs[k]? = some x → ys[k]? = some y → P x y
  | [], h, hI, _ => ⟨[], h, rfl, hI, rfl, fun k x y e => by simp at e⟩
  | x :: xs, h, hI, hx => by
    obtain ⟨e1, h1, y, q1, q2, q3, q4, q5⟩ := hx x List.mem_cons_self h hI
    obtain ⟨ys, h2, r1, r2, r3, r4⟩ := comp_turns_st f g I P hst xs h1 q5 fun y hy => hx y (List.mem_cons_of_mem _ hy)
    refine ⟨y :: ys, h2, ?_, r2, by simp [r3], fun k u v e1 e2 => ?_⟩
    · rw [List.map_cons, compL2_cons, q1, Res.bind_ok, q2, Res.bind_ok]
      simp [q3, hst _ q5, r1]
    · cases k with
      | zero => simp at e1 e2; subst e1; subst e2; exact q4
      | succ k => exact r4 k u v (by simpa using e1) (by simpa using e2)
/-- a comprehension whose element changes the cells: an invariant of these; what stands behind it -/
theorem comp_st {G : Callee} {own : List Nat} {tg : MT} {it : MI} {elt : ME} {e : MEnv} {h : MH} {α β : Type} (xs : List α) (f : α → MV) (g : β → MV) (I : MH → Prop) (P : α → β → Prop) (hi : evI G it e h = .ok ⟨xs.map f, none⟩ h) (hI : I h)
    (ht : ∀ x ∈ xs, ∀ h, I h → ∃ e1 h1 y, evT G tg (f x) (wipeM e own) h = .ok e1 h ∧ evE G elt e1 h = .ok (g y) h1 ∧ P x y ∧ I h1) (hl : xs.length ≤ 16000000) :
    ∃ (ys : List β) (h1 : MH), evF G (.comp own tg it .tt elt) e h = .ok (ys.map g) h1 ∧ I h1 ∧ ys.length = xs.length ∧ ∀ (k : Nat) (x : α) (y : β), xs[k]? = some x → ys[k]? = some y → P x y := by
  obtain ⟨ys, h1, k, k2, k3, k4⟩ := comp_turns_st (tg := fun x e h => evT G tg x e h) (c := fun e h => evB G .tt e h) (inner := fun e h => (evE G elt e h).bind fun v h => .ok [v] h) (e := wipeM e own) (stay := (Src.mk (xs.map f) none).stays) f g I P (fun _ _ => rfl) xs h hI (fun x hx h hI => by
    obtain ⟨e1, h1, y, q1, q2, q3, q4⟩ := ht x hx h hI
    exact ⟨e1, h1, y, q1, rfl, by show (evE G elt e1 h).bind _ = _; rw [q2]; rfl, q3, q4⟩)
  refine ⟨ys, h1, ?_, k2, k3, k4⟩
  show ((evI G it e h).bind fun s h1 => ((compL2 (fun x e h => evT G tg x e h) (fun e h => evB G .tt e h) (fun e h => (evE G elt e h).bind fun v h => .ok [v] h) (wipeM e own) s.stays s.items h1).bind fun vs h2 => okIf (lenOk vs.length) vs h2).nox) = _
  rw [hi]
  show ((compL2 (fun x e h => evT G tg x e h) (fun e h => evB G .tt e h) (fun e h => (evE G elt e h).bind fun v h => .ok [v] h) (wipeM e own) (Src.mk (xs.map f) none).stays (xs.map f) h).bind fun vs h2 => okIf (lenOk vs.length) vs h2).nox = _
  rw [k]
  have : lenOk (ys.map g).length = true := len_ok (by rw [List.length_map, k3]; exact hl)
  rw [Res.bind_ok, this]
  rfl
theorem for_turns {tg : MV → MEnv → MH → Res MEnv} {b : MEnv → MH → Res (Fl × MEnv)} {stay : MH → Bool} {α : Type} (f : α → MV) (I : Nat → MEnv → MH → Prop) (all : List α) (hst : ∀ k e h, I k e h → stay h = true)
    (ht : ∀ k x e h, all[k]? = some x → I k e h → ∃ e1 e2 h2, tg (f x) e h = .ok e1 h ∧ b e1 h = .ok (.nx, e2) h2 ∧ I (k + 1) e2 h2) :
    ∀ (xs : List α) (k : Nat) (e : MEnv) (h : MH), all.drop k = xs → k ≤ all.length → I k e h → ∃ e2 h2, forL tg b stay (xs.map f) e h = .ok (.nx, e2) h2 ∧ I all.length e2 h2
  | [], k, e, h, hd, hk, hI => by
    have : all.length ≤ k := List.drop_eq_nil_iff.mp hd
    have : k = all.length := by omega
    exact ⟨e, h, rfl, this ▸ hI⟩
  | x :: xs, k, e, h, hd, hk, hI => by
    have hx : all[k]? = some x := by
      have := List.getElem?_drop (xs := all) (i := k) (j := 0)
      rw [hd] at this
      simpa using this.symm
    have hk2 : k < all.length := by
      rcases Nat.lt_or_ge k all.length with h | h
      · exact h
      · rw [List.getElem?_eq_none h] at hx; cases hx
    obtain ⟨e1, e2, h2, q1, q2, q3⟩ := ht k x e h hx hI
    have hd2 : all.drop (k + 1) = xs := by
      have : all.drop (k + 1) = (all.drop k).drop 1 := by rw [List.drop_drop]
      rw [this, hd]
      rfl
    obtain ⟨e3, h3, r1, r2⟩ := for_turns f I all hst ht xs (k + 1) e2 h2 hd2 hk2 q3
    refine ⟨e3, h3, ?_, r2⟩
    rw [List.map_cons, forL_cons, q1]
    show ((b e1 h).bind fun fe h2 => match fe.1 with
      | .nx => if stay h2 then forL tg b stay (xs.map f) fe.2 h2 else .bad
      | .ct => if stay h2 then forL tg b stay (xs.map f) fe.2 h2 else .bad
      | .bk => .ok (.nx, fe.2) h2
      | .rt v => .ok (.rt v, fe.2) h2) = _
    rw [q2]
    show (if stay h2 then forL tg b stay (xs.map f) e2 h2 else .bad) = _
    rw [hst _ _ _ q3]
    exact r1
/-- a for loop by its invariant: k turns done -/
theorem for_inv {L : Option Nat} {G : Callee} {t : MT} {it : MI} {b : List MS} {e : MEnv} {h : MH} {α : Type} (all : List α) (f : α → MV) (I : Nat → MEnv → MH → Prop) (hi : evI G it e h = .ok ⟨all.map f, none⟩ h) (h0 : I 0 e h)
    (ht : ∀ k x e h, all[k]? = some x → I k e h → ∃ e1 e2 h2, evT G t (f x) e h = .ok e1 h ∧ evSs L G b e1 h = .ok (.nx, e2) h2 ∧ I (k + 1) e2 h2) :
    ∃ e2 h2, evS L G (.forS t it b) e h = .ok (.nx, e2) h2 ∧ I all.length e2 h2 := by
  obtain ⟨e2, h2, r1, r2⟩ := for_turns (tg := fun x e h => evT G t x e h) (b := fun e h => evSs L G b e h) (stay := (Src.mk (all.map f) none).stays) f I all (fun _ _ _ _ => rfl) ht all 0 e h rfl (Nat.zero_le _) h0
  refine ⟨e2, h2, ?_, r2⟩
  show (evI G it e h).bind _ = _
  rw [hi]
  exact r1
/-- over a cell that stays -/
theorem for_cell {L : Option Nat} {G : Callee} {t : MT} {it : MI} {b : List MS} {e : MEnv} {h : MH} {α : Type} (all : List α) (f : α → MV) (s : Src) (I : Nat → MEnv → MH → Prop) (hi : evI G it e h = .ok s h) (hs : s.items = all.map f) (hst : ∀ k e h, I k e h → s.stays h = true) (h0 : I 0 e h)
    (ht : ∀ k x e h, all[k]? = some x → I k e h → ∃ e1 e2 h2, evT G t (f x) e h = .ok e1 h ∧ evSs L G b e1 h = .ok (.nx, e2) h2 ∧ I (k + 1) e2 h2) :
    ∃ e2 h2, evS L G (.forS t it b) e h = .ok (.nx, e2) h2 ∧ I all.length e2 h2 := by
  obtain ⟨e2, h2, r1, r2⟩ := for_turns (tg := fun x e h => evT G t x e h) (b := fun e h => evSs L G b e h) (stay := s.stays) f I all hst ht all 0 e h rfl (Nat.zero_le _) h0
  refine ⟨e2, h2, ?_, r2⟩
  show (evI G it e h).bind _ = _
  rw [hi]
  show forL _ _ _ s.items _ _ = _
  rw [hs]
  exact r1
end MM
set_option Elab.async false
set_option linter.all false
set_option maxRecDepth 100000
/-! S6: one_in. -/
namespace G
open PySem MM
def pick (p : Post) (cl : List Nat) (bd : List (Nat × Nat)) (row : List Nat) : Option Nat := sel (gOk cl bd row) (gBet p cl row) (List.range cl.length) none
def grow (p : Post) (cl : List Nat) (bd : List (Nat × Nat)) : Nat → List Nat → Option (List Nat)
  | 0, row => some row
  | k + 1, row => match pick p cl bd row with
    | none => none
    | some i => grow p cl bd k (row.set i (row.getD i 0 + 1))
def oneIn (p : Post) (cl : List Nat) (bd : List (Nat × Nat)) (house : Nat) : Option (List Nat) := if house < (bd.map (·.1)).sum then none else grow p cl bd (house - (bd.map (·.1)).sum) (bd.map (·.1))
theorem pick_ok {p : Post} {cl : List Nat} {bd : List (Nat × Nat)} {row : List Nat} {i : Nat} (h : pick p cl bd row = some i) : i < cl.length ∧ gOk cl bd row i = true := by
  rcases sel_ok _ _ _ _ _ h with ⟨q1, q2⟩ | q
  · exact ⟨List.mem_range.mp q2, q1⟩
  · cases q
section
variable {n : Nat} {p : Post} {cl : List Nat} {bd : List (Nat × Nat)} {h : MH}
def bodyO : List MS := [(.asg (.nm 6) (.call 69 (.cons (.var 0) (.cons (.var 1) (.cons (.var 2) (.cons (.var 4) .nil)))))),
    (.ifS (.val (.isN (.var 6))) [(.ret .non)] []),
    (.augIx (.var 4) (.var 6) .add (.int 1))]
def mkO (p : Post) (cl : List Nat) (bd : List (Nat × Nat)) (house : Nat) (r : Nat) (x5 x6 : Option MV) : MEnv := [some (.tup (cl.map natM)), some p.mv, some (.tup (bd.map pairM)), some (.int (house : Int)), some (.ref r), x5, x6, none]
theorem row_cell (row : List Nat) : RowAt (.ref h.length) row (h ++ [.lst (row.map natM)]) := fun i x e => by
  have e1 : seqOf (h ++ [.lst (row.map natM)]) (.ref h.length) = some (row.map natM) := by simp [seqOf]
  show (match (seqOf (h ++ [.lst (row.map natM)]) (.ref h.length)).bind (L2.atI · (i : Int)) with | some v => Res.ok v _ | none => .bad) = _
  rw [e1, Option.bind_some, at_map natM e]
  rfl
theorem set_cell (row : List Nat) (i v : Nat) (hi : i < row.length) : setIx (.ref h.length) (.int (i : Int)) (.int (v : Int)) (h ++ [.lst (row.map natM)]) = .ok () (h ++ [.lst ((row.set i v).map natM)]) := by
  have e1 : (h ++ [MC.lst (row.map natM)])[h.length]? = some (.lst (row.map natM)) := by simp
  have e2 : L2.ixN (row.map natM).length (i : Int) = some i := by
    unfold L2.ixN
    rw [if_pos (by omega), if_pos (by simp; omega)]
    simp
  show (match (h ++ [MC.lst (row.map natM)])[h.length]? with
    | some (.lst xs) => match L2.ixN xs.length (i : Int) with
      | some j => okIf (flt (.int (v : Int))) () ((h ++ [MC.lst (row.map natM)]).set h.length (.lst (xs.set j (.int (v : Int)))))
      | none => .bad
    | _ => .bad) = _
  rw [e1]
  show (match L2.ixN (row.map natM).length (i : Int) with
      | some j => okIf (flt (.int (v : Int))) () ((h ++ [MC.lst (row.map natM)]).set h.length (.lst ((row.map natM).set j (.int (v : Int)))))
      | none => .bad) = _
  rw [e2]
  show Res.ok () ((h ++ [MC.lst (row.map natM)]).set h.length (.lst ((row.map natM).set i (.int (v : Int))))) = _
  rw [List.map_set]
  simp
  rfl
theorem o_step {row : List Nat} (hn : 6 ≤ n) (V : Rows p cl bd row) (house : Nat) (x5 x6 : Option MV) :
    evSs none (callK none T (n - 1)) bodyO (mkO p cl bd house h.length x5 x6) (h ++ [.lst (row.map natM)]) = match pick p cl bd row with
      | none => .ok (.rt .non, mkO p cl bd house h.length x5 (some .non)) (h ++ [.lst (row.map natM)])
      | some i => .ok (.nx, mkO p cl bd house h.length x5 (some (.int (i : Int)))) (h ++ [.lst ((row.set i (row.getD i 0 + 1)).map natM)]) := by
  have g := sp_greatest_next (n := n - 1) (h := h ++ [.lst (row.map natM)]) (by omega) V (row_cell row)
  cases q : pick p cl bd row with
  | none =>
    unfold pick at q
    rw [q] at g
    simp [bodyO, mkO, evSs, evS, evE, evEs, evT, evB, g, optM]
  | some i =>
    have hi := (pick_ok q).1
    unfold pick at q
    rw [q] at g
    have hir : i < row.length := by rw [V.lr]; exact hi
    have hx := row_cell (h := h) row i (row.getD i 0) (get_of 0 hir)
    have st := set_cell (h := h) row i (row.getD i 0 + 1) hir
    have ip : ipV .add (.int ((row.getD i 0 : Nat) : Int)) (.int 1) (h ++ [.lst (row.map natM)]) = .ok (.int ((row.getD i 0 + 1 : Nat) : Int)) (h ++ [.lst (row.map natM)]) := rfl
    dsimp only
    generalize row.getD i 0 = v at *
    show evSs none (callK none T (n - 1)) bodyO (mkO p cl bd house h.length x5 x6) (h ++ [.lst (row.map natM)]) = .ok (.nx, mkO p cl bd house h.length x5 (some (.int (i : Int)))) (h ++ [.lst ((row.set i (v + 1)).map natM)])
    generalize hH : h ++ [MC.lst (row.map natM)] = H at *
    generalize hH2 : h ++ [MC.lst ((row.set i (v + 1)).map natM)] = H2 at *
    simp [bodyO, mkO, evSs, evS, evE, evEs, evT, evB, g, optM, hx, ip]
    have st' : setIx (.ref h.length) (.int (i : Int)) (.int ((v : Int) + 1)) H = .ok () H2 := st
    rw [st']
    rfl
theorem rangeM_succ (lo : Int) (k : Nat) : rangeM lo (k + 1) = .int lo :: rangeM (lo + 1) k := by
  unfold rangeM
  rw [List.range_succ_eq_map, List.map_cons, List.map_map]
  congr 1
  · simp
  · apply List.map_congr_left
    intro a _
    show MV.int (lo + ((a + 1 : Nat) : Int)) = MV.int (lo + 1 + (a : Int))
    rw [show lo + ((a + 1 : Nat) : Int) = lo + 1 + (a : Int) by omega]
theorem Rows.grow {row : List Nat} {i : Nat} (V : Rows p cl bd row) (hb : ∀ b ∈ bd, b.2 ≤ 1000) (hi : i < cl.length) (g : gOk cl bd row i = true) : Rows p cl bd (row.set i (row.getD i 0 + 1)) := by
  refine ⟨V.post, V.lb, by rw [List.length_set]; exact V.lr, V.cle, fun s hs => ?_⟩
  rcases List.mem_or_eq_of_mem_set hs with h | h
  · exact V.rle s h
  · unfold gOk at g
    rw [Bool.and_eq_true, decide_eq_true_eq, decide_eq_true_eq] at g
    have := hb _ (mem_getD (0, 0) (show i < bd.length by rw [V.lb]; exact hi))
    omega
theorem o_loop (hn : 6 ≤ n) (house : Nat) (hb : ∀ b ∈ bd, b.2 ≤ 1000) : ∀ (k : Nat) (lo : Int) (row : List Nat) (x5 x6 : Option MV), Rows p cl bd row → ∃ (y5 y6 : Option MV) (row2 : List Nat),
    forL (fun x e h => evT (callK none T (n - 1)) (.nm 5) x e h) (fun e h => evSs none (callK none T (n - 1)) bodyO e h) (fun _ => true) (rangeM lo k) (mkO p cl bd house h.length x5 x6) (h ++ [.lst (row.map natM)]) =
      match grow p cl bd k row with
      | some r => .ok (.nx, mkO p cl bd house h.length y5 y6) (h ++ [.lst (r.map natM)])
      | none => .ok (.rt .non, mkO p cl bd house h.length y5 y6) (h ++ [.lst (row2.map natM)])
  | 0, lo, row, x5, x6, _ => ⟨x5, x6, row, rfl⟩
  | k + 1, lo, row, x5, x6, V => by
    have st := o_step (h := h) hn V house (some (.int lo)) x6
    rw [rangeM_succ, forL_cons]
    have e0 : (evT (callK none T (n - 1)) (.nm 5) (.int lo) (mkO p cl bd house h.length x5 x6) (h ++ [.lst (row.map natM)])).nox = .ok (mkO p cl bd house h.length (some (.int lo)) x6) (h ++ [.lst (row.map natM)]) := rfl
    rw [e0]
    simp only [Res.bind_ok]
    rw [st]
    cases q : pick p cl bd row with
    | none =>
      refine ⟨some (.int lo), some .non, row, ?_⟩
      simp only [grow, q]
      rfl
    | some i =>
      obtain ⟨h1, h2⟩ := pick_ok q
      obtain ⟨y5, y6, row2, e⟩ := o_loop hn house hb k (lo + 1) (row.set i (row.getD i 0 + 1)) (some (.int lo)) (some (.int i)) (V.grow hb h1 h2)
      refine ⟨y5, y6, row2, ?_⟩
      simp only [grow, q]
      exact e
theorem thk_nats (b : Nat) (h : MH) : ∀ r : List Nat, thkL b h (r.map natM) = true
  | [] => rfl
  | _ :: r => thk_nats b h r
theorem thaw_nats (b : Nat) (h : MH) : ∀ r : List Nat, thawL b h (r.map natM) = r.map natM
  | [] => rfl
  | _ :: r => by rw [List.map_cons, thawL, thaw_nats b h r]; rfl
theorem flt_nats : ∀ r : List Nat, fltL (r.map natM) = true
  | [] => rfl
  | _ :: r => flt_nats r
theorem low_comp (G : MM.Callee) (house : Nat) (hl : bd.length ≤ 1000) : evE G (.box (.comp [7] (.nm 7) (.seq (.var 2)) .tt (.ix (.var 7) (.int 0)))) [some (.tup (cl.map natM)), some p.mv, some (.tup (bd.map pairM)), some (.int (house : Int)), none, none, none, none] h = .ok (.ref h.length) (h ++ [.lst ((bd.map (·.1)).map natM)]) := by
  have c := compL2_map (tg := fun x e h => evT G (.nm 7) x e h) (c := fun e h => evB G .tt e h) (inner := fun e h => (evE G (.ix (.var 7) (.int 0)) e h).bind fun v h => .ok [v] h) (e := wipeM [some (.tup (cl.map natM)), some p.mv, some (.tup (bd.map pairM)), some (.int (house : Int)), none, none, none, none] [7]) (h := h)
    (fun _ => true) (fun x => match x with | .tup (a :: _) => [a] | _ => []) (bd.map pairM) (fun x hx => by
      obtain ⟨b, _, rfl⟩ := List.mem_map.mp hx
      simp [evT, evB, evE, wipeM, pairM])
  have e1 : ((bd.map pairM).filter fun _ => true).map (fun x => match x with | .tup (a :: _) => [a] | _ => []) = (bd.map (·.1)).map fun k => [natM k] := by
    rw [List.filter_eq_self.mpr (fun _ _ => rfl), List.map_map, List.map_map]
    rfl
  have e2 : ∀ l : List Nat, (l.map fun k => [natM k]).flatten = l.map natM := fun l => by
    induction l with
    | nil => rfl
    | cons a l ih => rw [List.map_cons, List.flatten_cons, ih]; rfl
  rw [e1, e2] at c
  show (((((compL2 (fun x e h => evT G (.nm 7) x e h) (fun e h => evB G .tt e h) (fun e h => (evE G (.ix (.var 7) (.int 0)) e h).bind fun v h => .ok [v] h) (wipeM _ [7]) (fun _ => true) (bd.map pairM) h).bind fun vs h2 => okIf (lenOk vs.length) vs h2).nox)).bind fun xs h1 => okIf (fltL xs) (MV.ref h1.length) (h1 ++ [.lst xs])) = _
  rw [c]
  have hl' : lenOk ((bd.map (·.1)).map natM).length = true := len_ok (by simp; omega)
  show (((okIf (lenOk ((bd.map (·.1)).map natM).length) ((bd.map (·.1)).map natM) h).nox).bind fun xs h1 => okIf (fltL xs) (MV.ref h1.length) (h1 ++ [.lst xs])) = _
  rw [hl']
  show okIf (fltL ((bd.map (·.1)).map natM)) (MV.ref h.length) (h ++ [.lst ((bd.map (·.1)).map natM)]) = _
  rw [flt_nats]
  rfl
theorem sum_nat : ∀ l : List Nat, (l.map fun (k : Nat) => (k : Int)).sum = ((l.sum : Nat) : Int)
  | [] => rfl
  | a :: l => by rw [List.map_cons, List.sum_cons, sum_nat l, List.sum_cons]; omega
theorem p62 : (2 : Int) ^ 62 = 4611686018427387904 := by decide
theorem small_n (k : Nat) (h : k ≤ 1000000) : small62 (k : Int) = true := by
  unfold small62
  rw [p62, Bool.and_eq_true, decide_eq_true_eq, decide_eq_true_eq]
  omega
theorem evI_r1 (G : MM.Callee) (m : ME) (e : MEnv) (h : MH) : evI G (.range1 m) e h = (evE G m e h).bind fun x h1 => match x with
    | .int j => okIf (small62 j) ⟨rangeM 0 j.toNat, none⟩ h1
    | _ => .bad := by
  rw [evI] <;> rfl
theorem r1_ev (G : MM.Callee) (m : ME) (e : MEnv) (h h1 : MH) (k : Nat) (q : evE G m e h = .ok (.int (k : Int)) h1) (hk : k ≤ 1000000) : evI G (.range1 m) e h = .ok ⟨rangeM 0 k, none⟩ h1 := by
  rw [evI_r1, q, Res.bind_ok]
  dsimp only
  rw [small_n k hk, Int.toNat_natCast]
  simp only [okIf_true]
theorem sp_one_in (hn : 6 ≤ n) (V : Rows p cl bd (bd.map (·.1))) (hb : ∀ b ∈ bd, b.2 ≤ 1000) (hl : bd.length ≤ 1000) (house : Nat) (hh : house ≤ 1000000) :
    callK none T n 72 [.tup (cl.map natM), p.mv, .tup (bd.map pairM), .int (house : Int)] h = .ok (match oneIn p cl bd house with | some r => rowM r | none => .non) h := by
  rw [call_at T_one_in (by omega)]
  have lc := low_comp (p := p) (cl := cl) (bd := bd) (h := h) (callK none T (n - 1)) house hl
  have sm : biV .sum [.ref h.length] (h ++ [.lst ((bd.map (·.1)).map natM)]) = .ok (.int (((bd.map (·.1)).sum : Nat) : Int)) (h ++ [.lst ((bd.map (·.1)).map natM)]) := by
    have e1 : seqOf (h ++ [.lst ((bd.map (·.1)).map natM)]) (.ref h.length) = some ((bd.map (·.1)).map natM) := by simp [seqOf]
    show (match (seqOf (h ++ [.lst ((bd.map (·.1)).map natM)]) (.ref h.length)).bind intsOf with | some ns => Res.ok (MV.int ns.sum) _ | none => .bad) = _
    have e2 : (bd.map (·.1)).map natM = ((bd.map (·.1)).map fun (k : Nat) => (k : Int)).map MV.int := by simp only [List.map_map]; rfl
    rw [e1, Option.bind_some, e2, ints_map]
    show Res.ok (MV.int _) _ = _
    rw [sum_nat]
  have cond : evB (callK none T (n - 1)) (.val (.cmp .gt (.bi .sum (.cons (.var 4) .nil)) (.var 3))) (mkO p cl bd house h.length none none) (h ++ [.lst ((bd.map (·.1)).map natM)]) = .ok (decide ((house : Int) < (((bd.map (·.1)).sum : Nat) : Int))) (h ++ [.lst ((bd.map (·.1)).map natM)]) := by
    generalize hH : h ++ [MC.lst ((bd.map (·.1)).map natM)] = H at *
    simp [evB, evE, evEs, mkO, sm]
  have k1 : runFn none (callK none T (n - 1)) fn_one_in [.tup (cl.map natM), p.mv, .tup (bd.map pairM), .int (house : Int)] h = finFn true h ((((evE (callK none T (n - 1)) (.box (.comp [7] (.nm 7) (.seq (.var 2)) .tt (.ix (.var 7) (.int 0)))) [some (.tup (cl.map natM)), some p.mv, some (.tup (bd.map pairM)), some (.int (house : Int)), none, none, none, none] h).bind fun v h1 => (evT (callK none T (n - 1)) (.nm 4) v [some (.tup (cl.map natM)), some p.mv, some (.tup (bd.map pairM)), some (.int (house : Int)), none, none, none, none] h1).nox.bind fun e1 h2 => Res.ok (Fl.nx, e1) h2)).bind fun fe h1 => match fe.1 with
    | Fl.nx => evSs none (callK none T (n - 1)) [.ifS (.val (.cmp .gt (.bi .sum (.cons (.var 4) .nil)) (.var 3))) [(.ret .non)] [], .forS (.nm 5) (.range1 (.bin .sub (.var 3) (.bi .sum (.cons (.var 4) .nil)))) bodyO, .ret (.bi .tup (.cons (.var 4) .nil))] fe.2 h1
    | _ => .ok fe h1) := rfl
  rw [k1, lc]
  show finFn true h ((((evB (callK none T (n - 1)) (.val (.cmp .gt (.bi .sum (.cons (.var 4) .nil)) (.var 3))) (mkO p cl bd house h.length none none) (h ++ [.lst ((bd.map (·.1)).map natM)])).bind fun k h1 => if k then evSs none (callK none T (n - 1)) [(.ret .non)] (mkO p cl bd house h.length none none) h1 else evSs none (callK none T (n - 1)) [] (mkO p cl bd house h.length none none) h1)).bind fun fe h1 => match fe.1 with
    | .nx => evSs none (callK none T (n - 1)) [.forS (.nm 5) (.range1 (.bin .sub (.var 3) (.bi .sum (.cons (.var 4) .nil)))) bodyO, .ret (.bi .tup (.cons (.var 4) .nil))] fe.2 h1
    | _ => .ok fe h1) = _
  rw [cond]
  by_cases c : house < (bd.map (·.1)).sum
  · rw [decide_eq_true (show (house : Int) < _ by omega)]
    have e : oneIn p cl bd house = none := by unfold oneIn; rw [if_pos c]
    rw [e]
    show Res.ok MV.non ((h ++ [MC.lst ((bd.map (·.1)).map natM)]).take h.length) = _
    simp
  · rw [decide_eq_false (show ¬ (house : Int) < _ by omega)]
    have ev : evI (callK none T (n - 1)) (.range1 (.bin .sub (.var 3) (.bi .sum (.cons (.var 4) .nil)))) (mkO p cl bd house h.length none none) (h ++ [.lst ((bd.map (·.1)).map natM)]) = .ok ⟨rangeM 0 (house - (bd.map (·.1)).sum), none⟩ (h ++ [.lst ((bd.map (·.1)).map natM)]) := by
      have e1 : ((house : Int) - (((bd.map (·.1)).sum : Nat) : Int)) = ((house - (bd.map (·.1)).sum : Nat) : Int) := by omega
      have e2 : small62 ((house - (bd.map (·.1)).sum : Nat) : Int) = true := by unfold small62; rw [Bool.and_eq_true, decide_eq_true_eq, decide_eq_true_eq]; omega
      generalize hH : h ++ [MC.lst ((bd.map (·.1)).map natM)] = H at *
      generalize (bd.map (·.1)).sum = sm0 at *
      have sv : evE (callK none T (n - 1)) (.bin .sub (.var 3) (.bi .sum (.cons (.var 4) .nil))) (mkO p cl bd house h.length none none) H = .ok (.int ((house : Int) - (sm0 : Int))) H := by simp [evE, evEs, mkO, sm]
      exact r1_ev _ _ _ _ _ _ (by rw [sv, e1]) (by omega)
    obtain ⟨y5, y6, row2, lp⟩ := o_loop (h := h) hn house hb (house - (bd.map (·.1)).sum) 0 (bd.map (·.1)) none none V
    show finFn true h ((((evI (callK none T (n - 1)) (.range1 (.bin .sub (.var 3) (.bi .sum (.cons (.var 4) .nil)))) (mkO p cl bd house h.length none none) (h ++ [.lst ((bd.map (·.1)).map natM)])).bind fun s h1 => forL (fun x e h => evT (callK none T (n - 1)) (.nm 5) x e h) (fun e h => evSs none (callK none T (n - 1)) bodyO e h) s.stays s.items (mkO p cl bd house h.length none none) h1)).bind fun fe h1 => match fe.1 with
      | Fl.nx => evSs none (callK none T (n - 1)) [.ret (.bi .tup (.cons (.var 4) .nil))] fe.2 h1
      | _ => .ok fe h1) = _
    rw [ev]
    show finFn true h ((forL (fun x e h => evT (callK none T (n - 1)) (.nm 5) x e h) (fun e h => evSs none (callK none T (n - 1)) bodyO e h) (fun _ => true) (rangeM 0 (house - (bd.map (·.1)).sum)) (mkO p cl bd house h.length none none) (h ++ [.lst ((bd.map (·.1)).map natM)])).bind fun fe h1 => match fe.1 with
      | Fl.nx => evSs none (callK none T (n - 1)) [.ret (.bi .tup (.cons (.var 4) .nil))] fe.2 h1
      | _ => .ok fe h1) = _
    rw [lp]
    have e : oneIn p cl bd house = grow p cl bd (house - (bd.map (·.1)).sum) (bd.map (·.1)) := by unfold oneIn; rw [if_neg c]
    rw [e]
    cases grow p cl bd (house - (bd.map (·.1)).sum) (bd.map (·.1)) with
    | none =>
      show Res.ok MV.non ((h ++ [MC.lst (row2.map natM)]).take h.length) = _
      simp
    | some r =>
      have e1 : seqOf (h ++ [.lst (r.map natM)]) (.ref h.length) = some (r.map natM) := by simp [seqOf]
      have tp : evSs none (callK none T (n - 1)) [.ret (.bi .tup (.cons (.var 4) .nil))] (mkO p cl bd house h.length y5 y6) (h ++ [.lst (r.map natM)]) = .ok (.rt (rowM r), mkO p cl bd house h.length y5 y6) (h ++ [.lst (r.map natM)]) := by
        generalize h ++ [MC.lst (r.map natM)] = H at *
        simp [evSs, evS, evE, evEs, mkO, biV, e1, rowM]
      show finFn true h (evSs none (callK none T (n - 1)) [.ret (.bi .tup (.cons (.var 4) .nil))] (mkO p cl bd house h.length y5 y6) (h ++ [.lst (r.map natM)])) = _
      rw [tp]
      have k1 : thkL h.length (h ++ [.lst (r.map natM)]) (r.map natM) = true := thk_nats _ _ r
      have k2 : thawL h.length (h ++ [.lst (r.map natM)]) (r.map natM) = r.map natM := thaw_nats _ _ r
      show (if true then (if thkL h.length (h ++ [.lst (r.map natM)]) (r.map natM) then Res.ok (MV.tup (thawL h.length (h ++ [.lst (r.map natM)]) (r.map natM))) ((h ++ [MC.lst (r.map natM)]).take h.length) else .bad) else Res.bad) = _
      rw [k1, k2]
      simp [rowM]
end
end G
set_option Elab.async false
set_option linter.all false
set_option maxRecDepth 100000
/-! Q1: rows in order; right rows in the abstract. -/
namespace G
/-! ### the order of rows -/
def lexN : List Nat → List Nat → Bool
  | [], [] => false
  | [], _ :: _ => true
  | _ :: _, [] => false
  | x :: xs, y :: ys => if x = y then lexN xs ys else decide (x < y)
theorem lexN_irr : ∀ a : List Nat, lexN a a = false
  | [] => rfl
  | x :: a => by simp [lexN, lexN_irr a]
theorem lexN_asym : ∀ a b : List Nat, lexN a b = true → lexN b a = false
  | [], [], h => by simp [lexN] at h
  | [], _ :: _, _ => rfl
  | _ :: _, [], h => by simp [lexN] at h
  | x :: a, y :: b, h => by
    by_cases e : x = y
    · subst e
      simp [lexN] at h ⊢
      exact lexN_asym a b h
    · simp [lexN, e] at h
      have e2 : ¬ y = x := fun k => e k.symm
      simp [lexN, e2]
      omega
theorem lexN_tri : ∀ a b : List Nat, lexN a b = false → lexN b a = false → a = b
  | [], [], _, _ => rfl
  | [], _ :: _, h, _ => by simp [lexN] at h
  | _ :: _, [], _, h => by simp [lexN] at h
  | x :: a, y :: b, h1, h2 => by
    by_cases e : x = y
    · subst e
      simp [lexN] at h1 h2
      rw [lexN_tri a b h1 h2]
    · have e2 : ¬ y = x := fun k => e k.symm
      simp [lexN, e, e2] at h1 h2
      omega
theorem lexN_trans : ∀ a b c : List Nat, lexN a b = true → lexN b c = true → lexN a c = true
  | [], [], _, h, _ => by simp [lexN] at h
  | [], _ :: _, [], _, h => by simp [lexN] at h
  | [], _ :: _, _ :: _, _, _ => rfl
  | _ :: _, [], _, h, _ => by simp [lexN] at h
  | _ :: _, _ :: _, [], _, h => by simp [lexN] at h
  | x :: a, y :: b, z :: c, h1, h2 => by
    by_cases e : x = y
    · subst e
      by_cases f : x = z
      · subst f
        simp [lexN] at h1 h2 ⊢
        exact lexN_trans a b c h1 h2
      · simp [lexN, f] at h2 ⊢
        exact h2
    · simp [lexN, e] at h1
      by_cases f : y = z
      · subst f
        simp [lexN, e]
        exact h1
      · simp [lexN, f] at h2
        have : ¬ x = z := by omega
        simp [lexN, this]
        omega
def insN (x : List Nat) : List (List Nat) → List (List Nat)
  | [] => [x]
  | y :: r => if lexN y x then y :: insN x r else x :: y :: r
def sortN : List (List Nat) → List (List Nat)
  | [] => []
  | x :: r => insN x (sortN r)
/-- the last of each -/
def nubN : List (List Nat) → List (List Nat)
  | [] => []
  | x :: r => if x ∈ r then nubN r else x :: nubN r
theorem mem_insN (a x : List Nat) : ∀ l, a ∈ insN x l ↔ a = x ∨ a ∈ l
  | [] => by simp [insN]
  | y :: r => by
    unfold insN
    split
    · rw [List.mem_cons, mem_insN a x r, List.mem_cons]
      constructor
      · rintro (h | h | h)
        · exact .inr (.inl h)
        · exact .inl h
        · exact .inr (.inr h)
      · rintro (h | h | h)
        · exact .inr (.inl h)
        · exact .inl h
        · exact .inr (.inr h)
    · simp only [List.mem_cons]
theorem mem_sortN (a : List Nat) : ∀ l, a ∈ sortN l ↔ a ∈ l
  | [] => Iff.rfl
  | x :: r => by rw [sortN, mem_insN, mem_sortN a r, List.mem_cons]
theorem len_insN (x : List Nat) : ∀ l, (insN x l).length = l.length + 1
  | [] => rfl
  | y :: r => by
    unfold insN
    split
    · rw [List.length_cons, len_insN x r, List.length_cons]
    · rfl
theorem len_sortN : ∀ l, (sortN l).length = l.length
  | [] => rfl
  | x :: r => by rw [sortN, len_insN, len_sortN r, List.length_cons]
theorem mem_nubN (a : List Nat) : ∀ l, a ∈ nubN l ↔ a ∈ l
  | [] => Iff.rfl
  | x :: r => by
    unfold nubN
    split
    · rename_i h
      rw [mem_nubN a r, List.mem_cons]
      constructor
      · exact .inr
      · rintro (e | e)
        · exact e ▸ h
        · exact e
    · rw [List.mem_cons, mem_nubN a r, List.mem_cons]
theorem nub_nodup : ∀ l, (nubN l).Nodup
  | [] => List.nodup_nil
  | x :: r => by
    unfold nubN
    split
    · exact nub_nodup r
    · rename_i h
      exact List.nodup_cons.mpr ⟨fun k => h ((mem_nubN x r).mp k), nub_nodup r⟩
/-- strictly ascending -/
def Asc (l : List (List Nat)) : Prop := l.Pairwise fun a b => lexN a b = true
theorem asc_insN (x : List Nat) : ∀ l, Asc l → x ∉ l → Asc (insN x l)
  | [], _, _ => List.pairwise_singleton _ _
  | y :: r, h, hx => by
    obtain ⟨h1, h2⟩ := List.pairwise_cons.mp h
    unfold insN
    split
    · rename_i c
      refine List.pairwise_cons.mpr ⟨fun a ha => ?_, asc_insN x r h2 fun k => hx (List.mem_cons_of_mem _ k)⟩
      rcases (mem_insN a x r).mp ha with e | e
      · exact e ▸ c
      · exact h1 a e
    · rename_i c
      have c1 : lexN y x = false := by simpa using c
      have c2 : lexN x y = true := by
        cases q : lexN x y with
        | true => rfl
        | false => exact absurd (lexN_tri x y q c1) fun e => hx (e ▸ List.mem_cons_self)
      refine List.pairwise_cons.mpr ⟨fun a ha => ?_, h⟩
      rcases List.mem_cons.mp ha with e | e
      · exact e ▸ c2
      · exact lexN_trans _ _ _ c2 (h1 a e)
theorem asc_sortN : ∀ l : List (List Nat), l.Nodup → Asc (sortN l)
  | [], _ => List.Pairwise.nil
  | x :: r, h => by
    obtain ⟨h1, h2⟩ := List.nodup_cons.mp h
    exact asc_insN x _ (asc_sortN r h2) fun k => h1 ((mem_sortN x r).mp k)
theorem asc_ext : ∀ l m : List (List Nat), Asc l → Asc m → (∀ a, a ∈ l ↔ a ∈ m) → l = m
  | [], [], _, _, _ => rfl
  | [], b :: m, _, _, h => absurd ((h b).mpr List.mem_cons_self) List.not_mem_nil
  | a :: l, [], _, _, h => absurd ((h a).mp List.mem_cons_self) List.not_mem_nil
  | a :: l, b :: m, h1, h2, h => by
    obtain ⟨p1, p2⟩ := List.pairwise_cons.mp h1
    obtain ⟨q1, q2⟩ := List.pairwise_cons.mp h2
    have e : a = b := by
      rcases List.mem_cons.mp ((h a).mp List.mem_cons_self) with e | e
      · exact e
      · rcases List.mem_cons.mp ((h b).mpr List.mem_cons_self) with f | f
        · exact f.symm
        · have := lexN_asym _ _ (q1 a e)
          rw [p1 b f] at this
          cases this
    subst e
    rw [asc_ext l m p2 q2 fun x => ?_]
    constructor
    · intro hx
      rcases List.mem_cons.mp ((h x).mp (List.mem_cons_of_mem _ hx)) with e | e
      · subst e
        have := p1 x hx
        rw [lexN_irr] at this
        cases this
      · exact e
    · intro hx
      rcases List.mem_cons.mp ((h x).mpr (List.mem_cons_of_mem _ hx)) with e | e
      · subst e
        have := q1 x hx
        rw [lexN_irr] at this
        cases this
      · exact e
theorem sort_ext {l m : List (List Nat)} (h1 : l.Nodup) (h2 : m.Nodup) (h : ∀ a, a ∈ l ↔ a ∈ m) : sortN l = sortN m :=
  asc_ext _ _ (asc_sortN l h1) (asc_sortN m h2) fun a => by rw [mem_sortN, mem_sortN, h a]
/-! ### sums, one more -/
def at0 (r : List Nat) (i : Nat) : Nat := r.getD i 0
theorem at_set (r : List Nat) (i v j : Nat) (hi : i < r.length) : at0 (r.set i v) j = if i = j then v else at0 r j := by
  unfold at0
  rw [List.getD_eq_getElem?_getD, List.getElem?_set]
  split
  · rename_i e
    subst e
    simp [hi]
  · rfl
theorem sum_set : ∀ (r : List Nat) (i v : Nat), i < r.length → (r.set i v).sum + at0 r i = r.sum + v
  | x :: r, 0, v, _ => by simp [at0]; omega
  | x :: r, i + 1, v, h => by
    have ih := sum_set r i v (by simpa using h)
    simp only [List.set_cons_succ, List.sum_cons, at0, List.getD_cons_succ] at ih ⊢
    omega
theorem ext0 {r s : List Nat} (hl : r.length = s.length) (h : ∀ i, i < r.length → at0 r i = at0 s i) : r = s := by
  apply List.ext_getElem hl
  intro i h1 h2
  have := h i h1
  simp [at0, h1, h2] at this
  exact this
def bump (r : List Nat) (i : Nat) : List Nat := r.set i (at0 r i + 1)
theorem len_bump (r : List Nat) (i : Nat) : (bump r i).length = r.length := List.length_set
theorem at_bump (r : List Nat) (i j : Nat) (hi : i < r.length) : at0 (bump r i) j = if i = j then at0 r i + 1 else at0 r j := at_set r i _ j hi
theorem sum_bump (r : List Nat) (i : Nat) (hi : i < r.length) : (bump r i).sum = r.sum + 1 := by
  have := sum_set r i (at0 r i + 1) hi
  unfold bump
  omega
theorem le_of_sum : ∀ (r s : List Nat), r.length = s.length → (∀ i, i < r.length → at0 r i ≤ at0 s i) → r.sum ≤ s.sum
  | [], [], _, _ => Nat.le_refl _
  | x :: r, y :: s, hl, h => by
    have h0 := h 0 (by simp)
    have ih := le_of_sum r s (by simpa using hl) fun i hi => by simpa [at0] using h (i + 1) (by simpa using hi)
    simp [at0] at h0
    simp only [List.sum_cons]
    omega
  | [], _ :: _, hl, _ => by simp at hl
  | _ :: _, [], hl, _ => by simp at hl
theorem exists_lt : ∀ (r s : List Nat), r.length = s.length → r.sum < s.sum → ∃ i, i < r.length ∧ at0 r i < at0 s i := by
  intro r s hl h
  rcases Classical.em (∃ i, i < r.length ∧ at0 r i < at0 s i) with q | q
  · exact q
  · have := le_of_sum s r hl.symm fun i hi => by
      rcases Nat.lt_or_ge (at0 r i) (at0 s i) with c | c
      · exact absurd ⟨i, by omega, c⟩ q
      · exact c
    omega
/-- of two rows with one sum: where the one has more, the other has elsewhere -/
theorem exists_less (r s : List Nat) (hl : r.length = s.length) (h : r.sum = s.sum) (i : Nat) (hi : i < r.length) (hlt : at0 r i < at0 s i) : ∃ j, j < r.length ∧ at0 s j < at0 r j := by
  rcases Classical.em (∃ j, j < r.length ∧ at0 s j < at0 r j) with q | q
  · exact q
  · have hle : ∀ j, j < r.length → at0 r j ≤ at0 s j := fun j hj => by
      rcases Nat.lt_or_ge (at0 s j) (at0 r j) with c | c
      · exact absurd ⟨j, hj, c⟩ q
      · exact c
    have h2 := le_of_sum (bump r i) s (by rw [len_bump]; exact hl) fun j hj => by
      rw [len_bump] at hj
      rw [at_bump r i j hi]
      split
      · rename_i e; subst e; omega
      · exact hle j hj
    rw [sum_bump r i hi] at h2
    omega
/-! ### an order of quotients -/
structure KOrd (act : Nat → Bool) (gt : Nat → Nat → Nat → Nat → Prop) : Prop where
  asym : ∀ i s j t, act i = true → act j = true → gt i s j t → ¬ gt j t i s
  ntr : ∀ i s j t k u, act i = true → act j = true → act k = true → ¬ gt i s j t → ¬ gt j t k u → ¬ gt i s k u
  fall : ∀ i s t, act i = true → s < t → gt i s i t
section
variable {act : Nat → Bool} {gt : Nat → Nat → Nat → Nat → Prop} {n : Nat} {lo hi : Nat → Nat}
theorem KOrd.irr (K : KOrd act gt) (i s : Nat) (h : act i = true) : ¬ gt i s i s := fun k => K.asym i s i s h h k k
theorem KOrd.mono (K : KOrd act gt) (i s t : Nat) (h : act i = true) (hs : s ≤ t) : ¬ gt i t i s := by
  rcases Nat.lt_or_ge s t with c | c
  · exact K.asym i s i t h h (K.fall i s t h c)
  · have : s = t := by omega
    subst this
    exact K.irr i s h
theorem KOrd.trans (K : KOrd act gt) {i s j t k u : Nat} (h1 : act i = true) (h2 : act j = true) (h3 : act k = true) (a : gt i s j t) (b : ¬ gt k u j t) : gt i s k u :=
  Classical.byContradiction fun c => K.ntr i s k u j t h1 h3 h2 c b a
theorem KOrd.trans' (K : KOrd act gt) {i s j t k u : Nat} (h1 : act i = true) (h2 : act j = true) (h3 : act k = true) (a : ¬ gt j t i s) (b : gt j t k u) : gt i s k u :=
  Classical.byContradiction fun c => K.ntr j t i s k u h2 h1 h3 a c b
structure Right (act : Nat → Bool) (gt : Nat → Nat → Nat → Nat → Prop) (n : Nat) (lo hi : Nat → Nat) (r : List Nat) : Prop where
  len : r.length = n
  low : ∀ i, i < n → lo i ≤ at0 r i
  high : ∀ i, i < n → act i = true → at0 r i ≤ hi i
  off : ∀ i, i < n → act i = false → at0 r i = lo i
  ord : ∀ i j, i < n → j < n → act i = true → act j = true → lo i < at0 r i → at0 r j < hi j → ¬ gt j (at0 r j) i (at0 r i - 1)
/-- who may have the next seat -/
structure Next (act : Nat → Bool) (gt : Nat → Nat → Nat → Nat → Prop) (n : Nat) (hi : Nat → Nat) (r : List Nat) (i : Nat) : Prop where
  lt : i < n
  on : act i = true
  room : at0 r i < hi i
  top : ∀ j, j < n → act j = true → at0 r j < hi j → ¬ gt j (at0 r j) i (at0 r i)
theorem right_bump (K : KOrd act gt) {r : List Nat} {i : Nat} (R : Right act gt n lo hi r) (N : Next act gt n hi r i) : Right act gt n lo hi (bump r i) := by
  have hil : i < r.length := by rw [R.len]; exact N.lt
  refine ⟨by rw [len_bump]; exact R.len, fun j hj => ?_, fun j hj ha => ?_, fun j hj ha => ?_, fun k j hk hj ak aj gk bj => ?_⟩
  · rw [at_bump r i j hil]
    have := R.low j hj
    split
    · rename_i e; subst e; omega
    · exact this
  · rw [at_bump r i j hil]
    have := R.high j hj ha
    split
    · rename_i e; subst e; have := N.room; omega
    · exact this
  · rw [at_bump r i j hil, if_neg fun e => by subst e; rw [N.on] at ha; cases ha]
    exact R.off j hj ha
  · rw [at_bump r i k hil] at gk ⊢
    rw [at_bump r i j hil] at bj ⊢
    by_cases e : i = k
    · subst e
      rw [if_pos rfl, show at0 r i + 1 - 1 = at0 r i by omega]
      by_cases f : i = j
      · subst f
        rw [if_pos rfl]
        exact K.mono i _ _ ak (by omega)
      · rw [if_neg f] at bj ⊢
        exact N.top j hj aj bj
    · rw [if_neg e] at gk ⊢
      by_cases f : i = j
      · subst f
        rw [if_pos rfl] at bj ⊢
        exact K.ntr _ _ _ _ _ _ aj aj ak (K.mono i (at0 r i) _ aj (by omega)) (R.ord k i hk hj ak aj gk (by omega))
      · rw [if_neg f] at bj ⊢
        exact R.ord k j hk hj ak aj gk bj
/-- the least of some -/
theorem least_of (K : KOrd act gt) (q : Nat → Nat) (P : Nat → Prop) (hP : ∀ i, P i → act i = true) : ∀ m : Nat, (∃ i, i < m ∧ P i) → ∃ i, i < m ∧ P i ∧ ∀ j, j < m → P j → ¬ gt i (q i) j (q j)
  | 0, ⟨i, h, _⟩ => by omega
  | m + 1, ⟨i, h, hp⟩ => by
    rcases Classical.em (∃ i, i < m ∧ P i) with c | c
    · obtain ⟨k, h1, h2, h3⟩ := least_of K q P hP m c
      rcases Classical.em (P m) with d | d
      · rcases Classical.em (gt k (q k) m (q m)) with g | g
        · refine ⟨m, by omega, d, fun j hj pj => ?_⟩
          rcases Nat.lt_or_ge j m with e | e
          · exact K.ntr _ _ _ _ _ _ (hP m d) (hP k h2) (hP j pj) (K.asym _ _ _ _ (hP k h2) (hP m d) g) (h3 j e pj)
          · have : j = m := by omega
            subst this
            exact K.irr _ _ (hP j pj)
        · refine ⟨k, by omega, h2, fun j hj pj => ?_⟩
          rcases Nat.lt_or_ge j m with e | e
          · exact h3 j e pj
          · have : j = m := by omega
            subst this
            exact g
      · refine ⟨k, by omega, h2, fun j hj pj => ?_⟩
        rcases Nat.lt_or_ge j m with e | e
        · exact h3 j e pj
        · have : j = m := by omega
          subst this
          exact absurd pj d
    · have : i = m := by
        rcases Nat.lt_or_ge i m with e | e
        · exact absurd ⟨i, e, hp⟩ c
        · omega
      subst this
      refine ⟨i, by omega, hp, fun j hj pj => ?_⟩
      rcases Nat.lt_or_ge j i with e | e
      · exact absurd ⟨j, e, pj⟩ c
      · have : j = i := by omega
        subst this
        exact K.irr _ _ (hP j pj)
theorem right_drop (K : KOrd act gt) {r lows : List Nat} (R : Right act gt n lo hi r) (hl : lows.length = n) (hlo : ∀ i, i < n → at0 lows i = lo i) (hs : lows.sum < r.sum) :
    ∃ s i, Right act gt n lo hi s ∧ Next act gt n hi s i ∧ r = bump s i := by
  obtain ⟨i0, g0, g1⟩ := exists_lt lows r (by rw [hl, R.len]) hs
  rw [hl] at g0
  rw [hlo i0 g0] at g1
  have hact : ∀ i, i < n → lo i < at0 r i → act i = true := fun i hi h => by
    cases q : act i with
    | true => rfl
    | false => have := R.off i hi q; omega
  obtain ⟨i, h1, ⟨h2, h2'⟩, h3⟩ := least_of K (fun i => at0 r i - 1) (fun i => act i = true ∧ lo i < at0 r i) (fun i h => h.1) n ⟨i0, g0, hact i0 g0 g1, g1⟩
  have hil : i < r.length := by rw [R.len]; exact h1
  refine ⟨r.set i (at0 r i - 1), i, ?_, ?_, ?_⟩
  · refine ⟨by rw [List.length_set]; exact R.len, fun j hj => ?_, fun j hj ha => ?_, fun j hj ha => ?_, fun k j hk hj ak aj gk bj => ?_⟩
    · rw [at_set r i _ j hil]
      have := R.low j hj
      split
      · rename_i e; subst e; omega
      · exact this
    · rw [at_set r i _ j hil]
      have := R.high j hj ha
      split
      · rename_i e; subst e; omega
      · exact this
    · rw [at_set r i _ j hil, if_neg fun e => by subst e; rw [h2] at ha; cases ha]
      exact R.off j hj ha
    · rw [at_set r i _ k hil] at gk ⊢
      rw [at_set r i _ j hil] at bj ⊢
      have gk' : lo k < at0 r k := by
        split at gk
        · rename_i e; subst e; omega
        · exact gk
      have kk : ¬ gt k (at0 r k - 1) k ((if i = k then at0 r i - 1 else at0 r k) - 1) := K.mono k _ _ ak (by split <;> (first | (rename_i e; subst e; omega) | omega))
      by_cases f : i = j
      · subst f
        rw [if_pos rfl]
        exact K.ntr _ _ _ _ _ _ aj ak ak (h3 k hk ⟨ak, gk'⟩) kk
      · rw [if_neg f] at bj ⊢
        exact K.ntr _ _ _ _ _ _ aj ak ak (R.ord k j hk hj ak aj gk' bj) kk
  · refine ⟨h1, h2, ?_, fun j hj aj bj => ?_⟩
    · rw [at_set r i _ i hil, if_pos rfl]
      have := R.high i h1 h2
      omega
    · rw [at_set r i _ j hil] at bj ⊢
      rw [at_set r i _ i hil, if_pos rfl]
      by_cases f : i = j
      · subst f
        rw [if_pos rfl]
        exact K.irr _ _ aj
      · rw [if_neg f] at bj ⊢
        exact R.ord i j h1 hj h2 aj h2' bj
  · unfold bump
    rw [at_set r i _ i hil, if_pos rfl, List.set_set, show at0 r i - 1 + 1 = at0 r i by omega]
    apply ext0
    · simp
    · intro j hj
      rw [at_set r i _ j hil]
      split
      · rename_i e; subst e; rfl
      · rfl
theorem right_low {lows : List Nat} (hl : lows.length = n) (hlo : ∀ i, i < n → at0 lows i = lo i) (hb : ∀ i, i < n → act i = true → lo i ≤ hi i) : Right act gt n lo hi lows :=
  ⟨hl, fun i h => by rw [hlo i h]; exact Nat.le_refl _, fun i h a => by rw [hlo i h]; exact hb i h a, fun i h _ => hlo i h, fun i j h _ _ _ g _ => by rw [hlo i h] at g; omega⟩
theorem right_sum {r lows : List Nat} (R : Right act gt n lo hi r) (hl : lows.length = n) (hlo : ∀ i, i < n → at0 lows i = lo i) : lows.sum ≤ r.sum :=
  le_of_sum lows r (by rw [hl, R.len]) fun i h => by rw [hlo i (by omega)]; exact R.low i (by omega)
theorem right_base {r lows : List Nat} (R : Right act gt n lo hi r) (hl : lows.length = n) (hlo : ∀ i, i < n → at0 lows i = lo i) (hs : r.sum = lows.sum) : r = lows := by
  refine ext0 (by rw [R.len, hl]) fun i h => ?_
  rw [R.len] at h
  rw [hlo i h]
  rcases Nat.lt_or_ge (lo i) (at0 r i) with c | c
  · obtain ⟨j, h1, h2⟩ := exists_less lows r (by rw [hl, R.len]) hs.symm i (by omega) (by rw [hlo i h]; exact c)
    rw [hlo j (by omega)] at h2
    have := R.low j (by omega)
    omega
  · have := R.low i h
    omega
end
end G
set_option Elab.async false
set_option linter.all false
set_option maxRecDepth 100000
/-! Q2: all right rows by one of them. -/
namespace G
theorem wm_none : ∀ (ps base : List Nat) (m : Nat), ps.length < m → wm base ps m = []
  | [], base, m + 1, _ => rfl
  | i :: r, base, m + 1, h => by
    have : r.length < m := by simpa using h
    simp only [wm, if_pos this]
  | _, _, 0, h => by omega
theorem wm_eq (base : List Nat) (i : Nat) (r : List Nat) (m : Nat) : wm base (i :: r) (m + 1) = wm (bump base i) r m ++ wm base r (m + 1) := by
  show (if r.length < m then [] else wm (base.set i (base.getD i 0 + 1)) r m ++ wm base r (m + 1)) = _
  split
  · rename_i h
    rw [wm_none r _ m h, wm_none r _ (m + 1) (by omega)]
    rfl
  · rfl
/-- what one more at so many of some places is -/
structure Some1 (base ps : List Nat) (m : Nat) (r : List Nat) : Prop where
  len : r.length = base.length
  out : ∀ i, i ∉ ps → at0 r i = at0 base i
  ge : ∀ i, i ∈ ps → at0 base i ≤ at0 r i
  le : ∀ i, i ∈ ps → at0 r i ≤ at0 base i + 1
  sum : r.sum = base.sum + m
theorem same_of_sum {r s : List Nat} (hl : r.length = s.length) (h : ∀ i, i < r.length → at0 s i ≤ at0 r i) (hs : r.sum = s.sum) : r = s := by
  refine ext0 hl fun i hi => ?_
  have := h i hi
  rcases Nat.lt_or_ge (at0 s i) (at0 r i) with c | c
  · obtain ⟨j, h1, h2⟩ := exists_less s r hl.symm hs.symm i (by omega) c
    have := h j (by omega)
    omega
  · omega
theorem mem_wm : ∀ (ps base : List Nat) (m : Nat) (r : List Nat), ps.Nodup → (∀ i ∈ ps, i < base.length) → (r ∈ wm base ps m ↔ Some1 base ps m r)
  | ps, base, 0, r, _, _ => by
    have e : wm base ps 0 = [base] := by cases ps <;> rfl
    rw [e, List.mem_singleton]
    constructor
    · intro h
      subst h
      exact ⟨rfl, fun _ _ => rfl, fun _ _ => Nat.le_refl _, fun _ _ => by omega, rfl⟩
    · intro h
      refine same_of_sum h.len (fun i hi => ?_) h.sum
      by_cases c : i ∈ ps
      · exact h.ge i c
      · rw [h.out i c]; exact Nat.le_refl _
  | [], base, m + 1, r, _, _ => by
    have e : wm base [] (m + 1) = [] := rfl
    rw [e]
    constructor
    · intro h; cases h
    · intro h
      have : r = base := ext0 h.len fun i _ => h.out i (fun k => nomatch k)
      have := h.sum
      subst r
      omega
  | i :: ps, base, m + 1, r, hn, hb => by
    obtain ⟨hn1, hn2⟩ := List.nodup_cons.mp hn
    have hi : i < base.length := hb i List.mem_cons_self
    have ih1 := mem_wm ps (bump base i) m r hn2 (fun j hj => by rw [len_bump]; exact hb j (List.mem_cons_of_mem _ hj))
    have ih2 := mem_wm ps base (m + 1) r hn2 (fun j hj => hb j (List.mem_cons_of_mem _ hj))
    rw [wm_eq, List.mem_append, ih1, ih2]
    constructor
    · rintro (h | h)
      · refine ⟨by rw [h.len, len_bump], fun j hj => ?_, fun j hj => ?_, fun j hj => ?_, by rw [h.sum, sum_bump base i hi]; omega⟩
        · rw [h.out j (fun k => hj (List.mem_cons_of_mem _ k)), at_bump base i j hi, if_neg (show ¬ i = j from fun e => hj (by rw [← e]; exact List.mem_cons_self))]
        · rcases List.mem_cons.mp hj with e | e
          · subst e
            rw [h.out j hn1, at_bump base j j hi, if_pos rfl]; omega
          · have := h.ge j e
            rw [at_bump base i j hi, if_neg (show ¬ i = j from fun f => hn1 (by rw [f]; exact e))] at this
            exact this
        · rcases List.mem_cons.mp hj with e | e
          · subst e
            rw [h.out j hn1, at_bump base j j hi, if_pos rfl]; omega
          · have := h.le j e
            rw [at_bump base i j hi, if_neg (show ¬ i = j from fun f => hn1 (by rw [f]; exact e))] at this
            exact this
      · refine ⟨h.len, fun j hj => h.out j (fun k => hj (List.mem_cons_of_mem _ k)), fun j hj => ?_, fun j hj => ?_, h.sum⟩
        · rcases List.mem_cons.mp hj with e | e
          · subst e
            rw [h.out j hn1]; omega
          · exact h.ge j e
        · rcases List.mem_cons.mp hj with e | e
          · subst e
            rw [h.out j hn1]; omega
          · exact h.le j e
    · intro h
      have h1 := h.ge i List.mem_cons_self
      have h2 := h.le i List.mem_cons_self
      by_cases c : at0 r i = at0 base i
      · refine .inr ⟨h.len, fun j hj => ?_, fun j hj => h.ge j (List.mem_cons_of_mem _ hj), fun j hj => h.le j (List.mem_cons_of_mem _ hj), h.sum⟩
        by_cases e : j = i
        · rw [e]; exact c
        · exact h.out j fun k => (List.mem_cons.mp k).elim e hj
      · refine .inl ⟨by rw [len_bump]; exact h.len, fun j hj => ?_, fun j hj => ?_, fun j hj => ?_, by rw [h.sum, sum_bump base i hi]; omega⟩
        · rw [at_bump base i j hi]
          by_cases e : i = j
          · subst e; rw [if_pos rfl]; omega
          · rw [if_neg e]
            exact h.out j fun k => (List.mem_cons.mp k).elim (fun f => e f.symm) hj
        · rw [at_bump base i j hi, if_neg (show ¬ i = j from fun f => hn1 (by rw [f]; exact hj))]
          exact h.ge j (List.mem_cons_of_mem _ hj)
        · rw [at_bump base i j hi, if_neg (show ¬ i = j from fun f => hn1 (by rw [f]; exact hj))]
          exact h.le j (List.mem_cons_of_mem _ hj)
theorem wm_nodup : ∀ (ps base : List Nat) (m : Nat), ps.Nodup → (∀ i ∈ ps, i < base.length) → (wm base ps m).Nodup
  | ps, base, 0, _, _ => by
    have e : wm base ps 0 = [base] := by cases ps <;> rfl
    rw [e]; exact List.nodup_cons.mpr ⟨List.not_mem_nil, List.nodup_nil⟩
  | [], base, m + 1, _, _ => List.nodup_nil
  | i :: ps, base, m + 1, hn, hb => by
    obtain ⟨hn1, hn2⟩ := List.nodup_cons.mp hn
    have hi : i < base.length := hb i List.mem_cons_self
    have b1 : ∀ j ∈ ps, j < (bump base i).length := fun j hj => by rw [len_bump]; exact hb j (List.mem_cons_of_mem _ hj)
    have b2 : ∀ j ∈ ps, j < base.length := fun j hj => hb j (List.mem_cons_of_mem _ hj)
    rw [wm_eq]
    refine List.nodup_append.mpr ⟨wm_nodup ps _ m hn2 b1, wm_nodup ps _ (m + 1) hn2 b2, fun a ha b hb2 e => ?_⟩
    subst e
    have q1 := ((mem_wm ps _ m a hn2 b1).mp ha).out i hn1
    have q2 := ((mem_wm ps _ (m + 1) a hn2 b2).mp hb2).out i hn1
    rw [at_bump base i i hi, if_pos rfl] at q1
    omega
def ch : Nat → Nat → Nat
  | _, 0 => 1
  | 0, _ + 1 => 0
  | k + 1, m + 1 => ch k m + ch k (m + 1)
theorem wm_ch : ∀ (ps base : List Nat) (m : Nat), (wm base ps m).length = ch ps.length m
  | [], base, 0 => rfl
  | i :: ps, base, 0 => rfl
  | [], base, m + 1 => rfl
  | i :: ps, base, m + 1 => by rw [wm_eq, List.length_append, wm_ch ps, wm_ch ps]; rfl
/-! ### all rows by one -/
section
variable {act : Nat → Bool} {gt : Nat → Nat → Nat → Nat → Prop} {n : Nat} {lo hi : Nat → Nat}
/-- the last seat given: its quotient is the least of all given -/
structure Last (act : Nat → Bool) (gt : Nat → Nat → Nat → Nat → Prop) (n : Nat) (lo : Nat → Nat) (row : List Nat) (l : Nat) : Prop where
  lt : l < n
  on : act l = true
  got : lo l < at0 row l
  least : ∀ i, i < n → act i = true → lo i < at0 row i → ¬ gt l (at0 row l - 1) i (at0 row i - 1)
def IsG (act : Nat → Bool) (gt : Nat → Nat → Nat → Nat → Prop) (lo : Nat → Nat) (row : List Nat) (l i : Nat) : Prop := act i = true ∧ lo i < at0 row i ∧ ¬ gt i (at0 row i - 1) l (at0 row l - 1) ∧ ¬ gt l (at0 row l - 1) i (at0 row i - 1)
def IsL (act : Nat → Bool) (gt : Nat → Nat → Nat → Nat → Prop) (lo hi : Nat → Nat) (row : List Nat) (l i : Nat) : Prop := ¬ IsG act gt lo row l i ∧ act i = true ∧ at0 row i < hi i ∧ ¬ gt i (at0 row i) l (at0 row l - 1) ∧ ¬ gt l (at0 row l - 1) i (at0 row i)
theorem pair_lem (K : KOrd act gt) {row r : List Nat} {l : Nat} (R : Right act gt n lo hi row) (Q : Right act gt n lo hi r) (V : Last act gt n lo row l) {i j : Nat} (hi' : i < n) (hj : j < n) (up : at0 row i < at0 r i) (dn : at0 r j < at0 row j) :
    IsL act gt lo hi row l i ∧ at0 r i = at0 row i + 1 ∧ IsG act gt lo row l j ∧ at0 r j = at0 row j - 1 := by
  have li := R.low i hi'
  have lj := Q.low j hj
  have ai : act i = true := by
    cases q : act i with
    | true => rfl
    | false => have := Q.off i hi' q; omega
  have aj : act j = true := by
    cases q : act j with
    | true => rfl
    | false => have := R.off j hj q; omega
  have h1 := Q.high i hi' ai
  have h2 := R.high j hj aj
  -- the round of quotients
  have c1 : ¬ gt j (at0 r j) i (at0 r i - 1) := Q.ord i j hi' hj ai aj (by omega) (by omega)
  have c2 : ¬ gt j (at0 row j - 1) j (at0 r j) := K.mono j _ _ aj (by omega)
  have c3 : ¬ gt l (at0 row l - 1) j (at0 row j - 1) := V.least j hj aj (by omega)
  have c4 : ¬ gt i (at0 row i) l (at0 row l - 1) := R.ord l i V.lt hi' V.on ai V.got (by omega)
  have c5 : ¬ gt i (at0 r i - 1) i (at0 row i) := K.mono i _ _ ai (by omega)
  have d1 : ¬ gt l (at0 row l - 1) j (at0 r j) := K.ntr _ _ _ _ _ _ V.on aj aj c3 c2
  have d2 : ¬ gt l (at0 row l - 1) i (at0 r i - 1) := K.ntr _ _ _ _ _ _ V.on aj ai d1 c1
  have d3 : ¬ gt l (at0 row l - 1) i (at0 row i) := K.ntr _ _ _ _ _ _ V.on ai ai d2 c5
  have d4 : ¬ gt i (at0 row i) i (at0 r i - 1) := K.ntr _ _ _ _ _ _ ai V.on ai c4 d2
  have e1 : at0 r i = at0 row i + 1 := by
    rcases Nat.lt_or_ge (at0 row i) (at0 r i - 1) with c | c
    · exact absurd (K.fall i _ _ ai c) d4
    · omega
  have d5 : ¬ gt j (at0 r j) l (at0 row l - 1) := K.ntr _ _ _ _ _ _ aj ai V.on c1 (K.ntr _ _ _ _ _ _ ai ai V.on c5 c4)
  have d6 : ¬ gt j (at0 row j - 1) l (at0 row l - 1) := K.ntr _ _ _ _ _ _ aj aj V.on c2 d5
  have e2 : at0 r j = at0 row j - 1 := by
    rcases Nat.lt_or_ge (at0 r j) (at0 row j - 1) with c | c
    · exact absurd (K.fall j _ _ aj c) (K.ntr _ _ _ _ _ _ aj V.on aj d5 c3)
    · omega
  refine ⟨⟨fun g => ?_, ai, by omega, c4, d3⟩, e1, ⟨aj, by omega, d6, c3⟩, e2⟩
  have := K.ntr _ _ _ _ _ _ ai V.on ai g.2.2.1 d3
  exact this (K.fall i _ _ ai (by have := g.2.1; omega))
theorem rows_mem (K : KOrd act gt) {row : List Nat} {l : Nat} (R : Right act gt n lo hi row) (V : Last act gt n lo row l) {ps base : List Nat} {m : Nat} (hps : ∀ i, i ∈ ps ↔ i < n ∧ (IsG act gt lo row l i ∨ IsL act gt lo hi row l i))
    (hbl : base.length = n) (hbg : ∀ i, i < n → IsG act gt lo row l i → at0 base i = at0 row i - 1) (hbn : ∀ i, i < n → ¬ IsG act gt lo row l i → at0 base i = at0 row i) (hbs : base.sum + m = row.sum) (r : List Nat) :
    Some1 base ps m r ↔ Right act gt n lo hi r ∧ r.sum = row.sum := by
  constructor
  · intro h
    have rl : r.length = n := by rw [h.len, hbl]
    -- how a claim's seats may be
    have hG : ∀ i, i < n → IsG act gt lo row l i → at0 row i - 1 ≤ at0 r i ∧ at0 r i ≤ at0 row i := fun i hi g => by
      have m := (hps i).mpr ⟨hi, .inl g⟩
      have h1 := h.ge i m
      have h2 := h.le i m
      rw [hbg i hi g] at h1 h2
      have := g.2.1
      omega
    have hL : ∀ i, i < n → IsL act gt lo hi row l i → at0 row i ≤ at0 r i ∧ at0 r i ≤ at0 row i + 1 := fun i hi g => by
      have m := (hps i).mpr ⟨hi, .inr g⟩
      have h1 := h.ge i m
      have h2 := h.le i m
      rw [hbn i hi g.1] at h1 h2
      omega
    have hN : ∀ i, i < n → ¬ IsG act gt lo row l i → ¬ IsL act gt lo hi row l i → at0 r i = at0 row i := fun i hi g k => by
      rw [h.out i fun q => ((hps i).mp q).2.elim g k, hbn i hi g]
    have f1 : ∀ k, k < n → act k = true → lo k < at0 r k → ¬ gt l (at0 row l - 1) k (at0 r k - 1) := fun k hk ak gk => by
      rcases Classical.em (IsG act gt lo row l k) with g | g
      · have := hG k hk g
        exact K.ntr _ _ _ _ _ _ V.on ak ak g.2.2.2 (K.mono k _ _ ak (by omega))
      · rcases Classical.em (IsL act gt lo hi row l k) with q | q
        · have := hL k hk q
          rcases Nat.lt_or_ge (at0 row k) (at0 r k) with c | c
          · rw [show at0 r k - 1 = at0 row k by omega]; exact q.2.2.2.2
          · have e : at0 r k = at0 row k := by omega
            rw [e] at gk ⊢
            exact V.least k hk ak gk
        · have e := hN k hk g q
          rw [e] at gk ⊢
          exact V.least k hk ak gk
    have f2 : ∀ j, j < n → act j = true → at0 r j < hi j → ¬ gt j (at0 r j) l (at0 row l - 1) := fun j hj aj bj => by
      rcases Classical.em (IsG act gt lo row l j) with g | g
      · have := hG j hj g
        exact K.ntr _ _ _ _ _ _ aj aj V.on (K.mono j (at0 row j - 1) _ aj (by omega)) g.2.2.1
      · rcases Classical.em (IsL act gt lo hi row l j) with q | q
        · have := hL j hj q
          exact K.ntr _ _ _ _ _ _ aj aj V.on (K.mono j (at0 row j) _ aj (by omega)) q.2.2.2.1
        · have e := hN j hj g q
          rw [e] at bj ⊢
          exact R.ord l j V.lt hj V.on aj V.got bj
    refine ⟨⟨rl, fun i hi' => ?_, fun i hi' ai => ?_, fun i hi' ai => ?_, fun k j hk hj ak aj gk bj => K.ntr _ _ _ _ _ _ aj V.on ak (f2 j hj aj bj) (f1 k hk ak gk)⟩, by rw [h.sum]; exact hbs⟩
    · have := R.low i hi'
      rcases Classical.em (IsG act gt lo row l i) with g | g
      · have := hG i hi' g; have := g.2.1; omega
      · rcases Classical.em (IsL act gt lo hi row l i) with q | q
        · have := hL i hi' q; omega
        · have := hN i hi' g q; omega
    · have := R.high i hi' ai
      rcases Classical.em (IsG act gt lo row l i) with g | g
      · have := hG i hi' g; omega
      · rcases Classical.em (IsL act gt lo hi row l i) with q | q
        · have := hL i hi' q; have := q.2.2.1; omega
        · have := hN i hi' g q; omega
    · have := R.off i hi' ai
      rw [hN i hi' (fun g => by have := g.1; rw [ai] at this; cases this) (fun g => by have := g.2.1; rw [ai] at this; cases this)]
      exact this
  · rintro ⟨Q, hs⟩
    have hup : ∀ i, i < n → at0 row i < at0 r i → IsL act gt lo hi row l i ∧ at0 r i = at0 row i + 1 := fun i hi' c => by
      obtain ⟨j, h1, h2⟩ := exists_less row r (by rw [R.len, Q.len]) hs.symm i (by rw [R.len]; exact hi') c
      have := pair_lem K R Q V hi' (by rw [R.len] at h1; exact h1) c h2
      exact ⟨this.1, this.2.1⟩
    have hdn : ∀ j, j < n → at0 r j < at0 row j → IsG act gt lo row l j ∧ at0 r j = at0 row j - 1 := fun j hj c => by
      obtain ⟨i, h1, h2⟩ := exists_less r row (by rw [R.len, Q.len]) hs j (by rw [Q.len]; exact hj) c
      have := pair_lem K R Q V (by rw [Q.len] at h1; exact h1) hj h2 c
      exact ⟨this.2.2.1, this.2.2.2⟩
    refine ⟨by rw [Q.len, hbl], fun i hi' => ?_, fun i hi' => ?_, fun i hi' => ?_, by omega⟩
    · by_cases c : i < n
      · have n1 : ¬ IsG act gt lo row l i := fun g => hi' ((hps i).mpr ⟨c, .inl g⟩)
        have n2 : ¬ IsL act gt lo hi row l i := fun g => hi' ((hps i).mpr ⟨c, .inr g⟩)
        rw [hbn i c n1]
        rcases Nat.lt_trichotomy (at0 r i) (at0 row i) with q | q | q
        · exact absurd (hdn i c q).1 n1
        · exact q
        · exact absurd (hup i c q).1 n2
      · have e1 : at0 r i = 0 := by unfold at0; rw [List.getD_eq_getElem?_getD, List.getElem?_eq_none (by rw [Q.len]; omega)]; rfl
        have e2 : at0 base i = 0 := by unfold at0; rw [List.getD_eq_getElem?_getD, List.getElem?_eq_none (by rw [hbl]; omega)]; rfl
        rw [e1, e2]
    · obtain ⟨c, g⟩ := (hps i).mp hi'
      rcases g with g | g
      · rw [hbg i c g]
        rcases Nat.lt_or_ge (at0 r i) (at0 row i) with q | q
        · rw [(hdn i c q).2]; exact Nat.le_refl _
        · omega
      · rw [hbn i c g.1]
        rcases Nat.lt_or_ge (at0 r i) (at0 row i) with q | q
        · exact absurd (hdn i c q).1 g.1
        · exact q
    · obtain ⟨c, g⟩ := (hps i).mp hi'
      rcases g with g | g
      · rw [hbg i c g]
        have := g.2.1
        rcases Nat.lt_or_ge (at0 row i) (at0 r i) with q | q
        · exact absurd g (hup i c q).1.1
        · omega
      · rw [hbn i c g.1]
        rcases Nat.lt_or_ge (at0 row i) (at0 r i) with q | q
        · rw [(hup i c q).2]; exact Nat.le_refl _
        · omega
end
end G
set_option Elab.async false
set_option linter.all false
set_option maxRecDepth 100000
/-! Q3: the order of quotients is one. -/
namespace G
theorem mid_lt (s d : Nat) : s * (s + 1) * (2 * (s + 1 + d) + 1) < (s + 1 + d) * (s + 1 + d + 1) * (2 * s + 1) := by
  have e : (s + 1 + d) * (s + 1 + d + 1) * (2 * s + 1) = s * (s + 1) * (2 * (s + 1 + d) + 1) + (1 + d) * (2 * (s + 1 + d) * s + (s + 1 + d) + s + 1) := by
    simp only [Nat.mul_add, Nat.add_mul, Nat.mul_one, Nat.one_mul, Nat.mul_assoc, Nat.mul_comm, Nat.mul_left_comm]
    omega
  have : 0 < (1 + d) * (2 * (s + 1 + d) * s + (s + 1 + d) + s + 1) := Nat.mul_pos (by omega) (by omega)
  omega
theorem post_lt {p : Post} (hp : p.Ok) {s t : Nat} (h : s < t) : den p t * num p s < den p s * num p t := by
  obtain ⟨d, rfl⟩ : ∃ d, t = s + 1 + d := ⟨t - (s + 1), by omega⟩
  cases p with
  | root =>
    show 1 * (s * (s + 1)) < 1 * ((s + 1 + d) * (s + 1 + d + 1))
    rw [Nat.one_mul, Nat.one_mul]
    exact Nat.mul_lt_mul_of_lt_of_le (by omega) (by omega) (by omega)
  | middle =>
    show (2 * (s + 1 + d) + 1) ^ 2 * (4 * s ^ 2 * (s + 1) ^ 2) < (2 * s + 1) ^ 2 * (4 * (s + 1 + d) ^ 2 * (s + 1 + d + 1) ^ 2)
    have e1 : (2 * (s + 1 + d) + 1) ^ 2 * (4 * s ^ 2 * (s + 1) ^ 2) = 4 * (s * (s + 1) * (2 * (s + 1 + d) + 1)) ^ 2 := by
      simp only [Nat.mul_pow, Nat.mul_assoc, Nat.mul_comm, Nat.mul_left_comm]
    have e2 : (2 * s + 1) ^ 2 * (4 * (s + 1 + d) ^ 2 * (s + 1 + d + 1) ^ 2) = 4 * ((s + 1 + d) * (s + 1 + d + 1) * (2 * s + 1)) ^ 2 := by
      simp only [Nat.mul_pow, Nat.mul_assoc, Nat.mul_comm, Nat.mul_left_comm]
    rw [e1, e2]
    exact Nat.mul_lt_mul_of_pos_left (Nat.pow_lt_pow_left (mid_lt s d) (by omega)) (by omega)
  | plus a b =>
    show b ^ 2 * (s * b + a) ^ 2 < b ^ 2 * ((s + 1 + d) * b + a) ^ 2
    have hb : 0 < b := hp.1
    refine Nat.mul_lt_mul_of_pos_left (Nat.pow_lt_pow_left ?_ (by omega)) (Nat.pow_pos hb)
    have : s * b < (s + 1 + d) * b := Nat.mul_lt_mul_of_pos_right (by omega) hb
    omega
/-- K(i, s) > K(j, t) -/
def gtq (p : Post) (cl : List Nat) (i s j t : Nat) : Prop := 0 < qs p (at0 cl i) s (at0 cl j) t
def actc (cl : List Nat) (i : Nat) : Bool := decide (0 < at0 cl i)
theorem sg_pos {a b : Nat} : 0 < sg a b ↔ b < a := by
  unfold sg
  split
  · constructor <;> intro h <;> omega
  · split
    · constructor <;> intro h <;> omega
    · constructor <;> intro h <;> omega
theorem sg_neg {a b : Nat} : sg a b < 0 ↔ a < b := by
  unfold sg
  split
  · constructor <;> intro h <;> omega
  · split
    · constructor <;> intro h <;> omega
    · constructor <;> intro h <;> omega
theorem gtq_iff {p : Post} {cl : List Nat} {i s j t : Nat} : gtq p cl i s j t ↔ at0 cl j ^ 2 * den p t * num p s < at0 cl i ^ 2 * den p s * num p t := sg_pos
theorem qs_neg {p : Post} {cl : List Nat} {i s j t : Nat} : qs p (at0 cl i) s (at0 cl j) t < 0 ↔ gtq p cl j t i s := by
  rw [gtq_iff]
  exact sg_neg
theorem qs_zero {p : Post} {cl : List Nat} {i s j t : Nat} : qs p (at0 cl i) s (at0 cl j) t = 0 ↔ ¬ gtq p cl i s j t ∧ ¬ gtq p cl j t i s := by
  have h := qs_neg (p := p) (cl := cl) (i := i) (s := s) (j := j) (t := t)
  rw [← h]
  unfold gtq
  omega
theorem kord {p : Post} (hp : p.Ok) (cl : List Nat) : KOrd (actc cl) (gtq p cl) := by
  refine ⟨fun i s j t _ _ h k => ?_, fun i s j t k u hi hj hk h1 h2 => ?_, fun i s t h hs => ?_⟩
  · rw [gtq_iff] at h k
    omega
  · rw [gtq_iff, Nat.not_lt] at h1 h2 ⊢
    unfold actc at hi hj hk
    rw [decide_eq_true_eq] at hi hj hk
    generalize at0 cl i = c at *
    generalize at0 cl j = d at *
    generalize at0 cl k = e at *
    have n1 := den_pos hp s
    have n2 := den_pos hp t
    have n3 := den_pos hp u
    generalize num p s = ns at *
    generalize num p t = nt at *
    generalize num p u = nu at *
    generalize den p s = ds at *
    generalize den p t = dt at *
    generalize den p u = du at *
    -- h1 : c² ds nt ≤ d² dt ns ; h2 : d² dt nu ≤ e² du nt
    rcases Nat.eq_zero_or_pos nt with z | z
    · subst z
      have : d ^ 2 * dt * nu = 0 := by simpa using h2
      have q : 0 < d ^ 2 * dt := Nat.mul_pos (Nat.pow_pos hj) n2
      have : nu = 0 := by
        rcases Nat.mul_eq_zero.mp this with w | w
        · omega
        · exact w
      subst this
      rw [Nat.mul_zero]
      exact Nat.zero_le _
    · have q : 0 < d ^ 2 * dt * nt := Nat.mul_pos (Nat.mul_pos (Nat.pow_pos hj) n2) z
      refine Nat.le_of_mul_le_mul_right ?_ q
      have m := Nat.mul_le_mul h1 h2
      have e1 : c ^ 2 * ds * nu * (d ^ 2 * dt * nt) = c ^ 2 * ds * nt * (d ^ 2 * dt * nu) := by
        simp only [Nat.mul_assoc, Nat.mul_comm, Nat.mul_left_comm]
      have e2 : e ^ 2 * du * ns * (d ^ 2 * dt * nt) = d ^ 2 * dt * ns * (e ^ 2 * du * nt) := by
        simp only [Nat.mul_assoc, Nat.mul_comm, Nat.mul_left_comm]
      rw [e1, e2]
      exact m
  · rw [gtq_iff]
    unfold actc at h
    rw [decide_eq_true_eq] at h
    rw [Nat.mul_assoc, Nat.mul_assoc]
    exact Nat.mul_lt_mul_of_pos_left (post_lt hp hs) (Nat.pow_pos h)
end G
set_option Elab.async false
set_option linter.all false
set_option maxRecDepth 100000
/-! S7: sorting; cells at the end; rows_in. -/
namespace G
open PySem MM
/-! ### sorting -/
def insK (x : Nat) : List Nat → List Nat
  | [] => [x]
  | y :: r => if x ≤ y then x :: y :: r else y :: insK x r
def sortK : List Nat → List Nat
  | [] => []
  | x :: r => insK x (sortK r)
theorem insI_cast (x : Nat) : ∀ l : List Nat, insI (x : Int) (l.map fun (k : Nat) => (k : Int)) = (insK x l).map fun (k : Nat) => (k : Int)
  | [] => rfl
  | y :: r => by
    have ih := insI_cast x r
    by_cases c : x ≤ y
    · simp [insI, insK, c]
    · simp [insI, insK, c, ih]
theorem sortI_cast : ∀ l : List Nat, sortI (l.map fun (k : Nat) => (k : Int)) = (sortK l).map fun (k : Nat) => (k : Int)
  | [] => rfl
  | x :: r => by rw [List.map_cons, sortI, sortI_cast r, insI_cast]; rfl
theorem natM_cast (l : List Nat) : l.map natM = (l.map fun (k : Nat) => (k : Int)).map MV.int := by rw [List.map_map]; rfl
theorem sortV_nats (l : List Nat) : sortV (l.map natM) = some ((sortK l).map natM) := by
  unfold sortV
  rw [natM_cast, ints_map]
  show some ((sortI _).map MV.int) = _
  rw [sortI_cast, ← natM_cast]
theorem mem_insK (a x : Nat) : ∀ l, a ∈ insK x l ↔ a = x ∨ a ∈ l
  | [] => by simp [insK]
  | y :: r => by
    unfold insK
    split
    · simp only [List.mem_cons]
    · rw [List.mem_cons, mem_insK a x r, List.mem_cons]
      constructor
      · rintro (h | h | h)
        · exact .inr (.inl h)
        · exact .inl h
        · exact .inr (.inr h)
      · rintro (h | h | h)
        · exact .inr (.inl h)
        · exact .inl h
        · exact .inr (.inr h)
theorem mem_sortK (a : Nat) : ∀ l, a ∈ sortK l ↔ a ∈ l
  | [] => Iff.rfl
  | x :: r => by rw [sortK, mem_insK, mem_sortK a r, List.mem_cons]
theorem nodup_insK (x : Nat) : ∀ l, l.Nodup → x ∉ l → (insK x l).Nodup
  | [], _, _ => by simp [insK]
  | y :: r, h, hx => by
    obtain ⟨h1, h2⟩ := List.nodup_cons.mp h
    unfold insK
    split
    · exact List.nodup_cons.mpr ⟨hx, h⟩
    · refine List.nodup_cons.mpr ⟨fun k => ?_, nodup_insK x r h2 fun k => hx (List.mem_cons_of_mem _ k)⟩
      rcases (mem_insK y x r).mp k with e | e
      · exact hx (e ▸ List.mem_cons_self)
      · exact h1 e
theorem nodup_sortK : ∀ l, l.Nodup → (sortK l).Nodup
  | [], _ => List.nodup_nil
  | x :: r, h => by
    obtain ⟨h1, h2⟩ := List.nodup_cons.mp h
    exact nodup_insK x _ (nodup_sortK r h2) fun k => h1 ((mem_sortK x r).mp k)
theorem len_insK (x : Nat) : ∀ l, (insK x l).length = l.length + 1
  | [] => rfl
  | y :: r => by
    unfold insK
    split
    · rfl
    · rw [List.length_cons, len_insK x r, List.length_cons]
theorem len_sortK : ∀ l, (sortK l).length = l.length
  | [] => rfl
  | x :: r => by rw [sortK, len_insK, len_sortK r, List.length_cons]
/-- a row's ints -/
def rowI (r : List Nat) : List Int := r.map fun (k : Nat) => (k : Int)
theorem rowM_I (r : List Nat) : rowM r = tupM (rowI r) := by
  show MV.tup _ = MV.tup _
  rw [natM_cast]; rfl
theorem lex_cast : ∀ a b : List Nat, lexLtI (rowI a) (rowI b) = lexN a b
  | [], [] => rfl
  | [], _ :: _ => rfl
  | _ :: _, [] => rfl
  | x :: a, y :: b => by
    show (if (x : Int) = (y : Int) then lexLtI (rowI a) (rowI b) else decide ((x : Int) < (y : Int))) = if x = y then lexN a b else decide (x < y)
    rw [lex_cast a b]
    simp only [Int.ofNat_inj, Int.ofNat_lt]
theorem insT_cast (x : List Nat) : ∀ l : List (List Nat), insT (rowI x) (l.map rowI) = (insN x l).map rowI
  | [] => rfl
  | y :: r => by
    have ih := insT_cast x r
    rw [List.map_cons]
    unfold insT insN
    rw [lex_cast]
    by_cases c : lexN y x = true
    · rw [if_pos c, if_pos c, ih]; rfl
    · rw [if_neg c, if_neg c]; rfl
theorem sortT_cast : ∀ l : List (List Nat), sortT (l.map rowI) = (sortN l).map rowI
  | [] => rfl
  | x :: r => by rw [List.map_cons, sortT, sortT_cast r, insT_cast]; rfl
theorem tupsOf_rows : ∀ l : List (List Nat), (∀ r ∈ l, r ≠ []) → tupsOf (l.map rowM) = some (l.map rowI)
  | [], _ => rfl
  | x :: l, h => by
    have ih := tupsOf_rows l fun r hr => h r (List.mem_cons_of_mem _ hr)
    have hx := h x List.mem_cons_self
    have e : tupOf (rowM x) = some (rowI x) := by rw [rowM_I]; exact ints_map _
    show (match tupOf (rowM x), tupsOf (l.map rowM) with
      | some (n :: ns), some ts => some ((n :: ns) :: ts)
      | _, _ => none) = _
    rw [e, ih]
    cases x with
    | nil => exact absurd rfl hx
    | cons a x => rfl
theorem sortV_rows (l : List (List Nat)) (h : ∀ r ∈ l, r ≠ []) : sortV (l.map rowM) = some ((sortN l).map rowM) := by
  have q := tupsOf_rows l h
  have e2 : ∀ m : List (List Nat), (m.map rowI).map tupM = m.map rowM := fun m => by
    rw [List.map_map]; exact List.map_congr_left fun r _ => (rowM_I r).symm
  cases l with
  | nil => rfl
  | cons x l =>
    show (match intsOf (rowM x :: l.map rowM) with
      | some ns => some ((sortI ns).map MV.int)
      | none => match tupsOf ((x :: l).map rowM) with
        | some ts => some ((sortT ts).map tupM)
        | none => none) = _
    rw [q]
    show some ((sortT ((x :: l).map rowI)).map tupM) = _
    rw [sortT_cast, e2]
/-! ### cells at the end -/
section
variable {α : Type} (h r : List α) (a b c d : α)
@[simp] theorem cell0 : (h ++ a :: r)[h.length]? = some a := by simp
@[simp] theorem cell1 : (h ++ a :: b :: r)[h.length + 1]? = some b := by simp
@[simp] theorem cell2 : (h ++ a :: b :: c :: r)[h.length + 2]? = some c := by simp
@[simp] theorem put0 : (h ++ a :: r).set h.length d = h ++ d :: r := by simp
@[simp] theorem put1 : (h ++ a :: b :: r).set (h.length + 1) d = h ++ a :: d :: r := by simp
@[simp] theorem cut0 : (h ++ r).take h.length = h := by simp
end
theorem inL_nat (i : Nat) : ∀ l : List Nat, inL (.int (i : Int)) (l.map natM) = decide (i ∈ l)
  | [] => by simp [inL]
  | y :: r => by
    rw [List.map_cons, inL, inL_nat i r]
    show (decide ((y : Int) = (i : Int)) || decide (i ∈ r)) = _
    by_cases c : i = y
    · subst c; simp
    · have : ¬ (y : Int) = (i : Int) := by omega
      simp [c, this]
theorem shp_nats (k : Nat) : ∀ l : List Nat, shpL (k + 1) (l.map natM) = true
  | [] => rfl
  | _ :: r => by
    rw [List.map_cons, shpL, shp_nats k r]
    rfl
theorem shp_rows (k : Nat) : ∀ l : List (List Nat), shpL (k + 2) (l.map rowM) = true
  | [] => rfl
  | x :: r => by
    rw [List.map_cons, shpL, shp_rows k r]
    show (shpL (k + 1) (x.map natM) && true) = true
    rw [shp_nats]
    rfl
theorem thk_rows (b : Nat) (h : MH) : ∀ l : List (List Nat), thkL b h (l.map rowM) = true
  | [] => rfl
  | x :: r => by
    rw [List.map_cons, thkL, thk_rows b h r]
    show (thkL b h (x.map natM) && true) = true
    rw [thk_nats]
    rfl
theorem thaw_rows (b : Nat) (h : MH) : ∀ l : List (List Nat), thawL b h (l.map rowM) = l.map rowM
  | [] => rfl
  | x :: r => by
    rw [List.map_cons, thawL, thaw_rows b h r]
    show MV.tup (thawL b h (x.map natM)) :: _ = _
    rw [thaw_nats]
    rfl
theorem enum_range {α : Type} (f : α → MV) (d : α) : ∀ (xs : List α) (k : Nat), enumM k (xs.map f) = (List.range xs.length).map fun i => MV.tup [.int ((k + i : Nat) : Int), f (xs.getD i d)]
  | [], _ => rfl
  | x :: xs, k => by
    rw [List.map_cons, enumM_cons, enum_range f d xs (k + 1), List.length_cons, List.range_succ_eq_map, List.map_cons, List.map_map]
    congr 1
    apply List.map_congr_left
    intro i _
    show MV.tup [.int ((k + 1 + i : Nat) : Int), f (xs.getD i d)] = MV.tup [.int ((k + (i + 1) : Nat) : Int), f ((x :: xs).getD (i + 1) d)]
    rw [show k + 1 + i = k + (i + 1) by omega, List.getD_cons_succ]
theorem enum0 {α : Type} (f : α → MV) (d : α) (xs : List α) : enumM 0 (xs.map f) = (List.range xs.length).map fun (i : Nat) => MV.tup [.int (i : Int), f (xs.getD i d)] := by
  rw [enum_range f d xs 0]
  apply List.map_congr_left
  intro i _
  rw [Nat.zero_add]
theorem enumN (xs : List Nat) : enumM 0 (xs.map natM) = (List.range xs.length).map fun (i : Nat) => MV.tup [.int (i : Int), natM (at0 xs i)] := enum0 natM 0 xs
theorem range_get {n k x : Nat} (h : (List.range n)[k]? = some x) : x = k ∧ k < n := by
  rcases Nat.lt_or_ge k n with c | c
  · rw [List.getElem?_eq_getElem (by simpa using c), List.getElem_range] at h
    cases h
    exact ⟨rfl, c⟩
  · rw [List.getElem?_eq_none (by simpa using c)] at h
    cases h
theorem at_row {row : List Nat} {k : Nat} (h : k < row.length) : L2.atI (row.map natM) (k : Int) = some (.int ((at0 row k : Nat) : Int)) := at_map natM (get_of 0 h)
def lo0 (bd : List (Nat × Nat)) (i : Nat) : Nat := (bd.getD i (0, 0)).1
def hi0 (bd : List (Nat × Nat)) (i : Nat) : Nat := (bd.getD i (0, 0)).2
theorem at_bd {bd : List (Nat × Nat)} {k : Nat} (h : k < bd.length) : L2.atI (bd.map pairM) (k : Int) = some (.tup [.int ((lo0 bd k : Nat) : Int), .int ((hi0 bd k : Nat) : Int)]) := at_map pairM (get_of (0, 0) h)
theorem filter_range (p : Nat → Bool) (k : Nat) : (List.range (k + 1)).filter p = (List.range k).filter p ++ if p k then [k] else [] := by
  rw [List.range_succ, List.filter_append]
  congr 1
  cases q : p k <;> simp [q]
end G
set_option Elab.async false
set_option linter.all false
set_option maxRecDepth 100000
/-! S8: rows_in. -/
namespace G
open PySem MM
section
variable {n : Nat} {p : Post} {cl : List Nat} {bd : List (Nat × Nat)} {h : MH}
def isGb (p : Post) (cl : List Nat) (bd : List (Nat × Nat)) (row : List Nat) (l i : Nat) : Bool := decide (0 < at0 cl i) && decide (lo0 bd i < at0 row i) && decide (qs p (at0 cl i) (at0 row i - 1) (at0 cl l) (at0 row l - 1) = 0)
def isLb (p : Post) (cl : List Nat) (bd : List (Nat × Nat)) (row : List Nat) (l i : Nat) : Bool := !isGb p cl bd row l i && (decide (0 < at0 cl i) && decide (at0 row i < hi0 bd i) && decide (qs p (at0 cl i) (at0 row i) (at0 cl l) (at0 row l - 1) = 0))
def gL (p : Post) (cl : List Nat) (bd : List (Nat × Nat)) (row : List Nat) (l k : Nat) : List Nat := (List.range k).filter (isGb p cl bd row l)
def lL (p : Post) (cl : List Nat) (bd : List (Nat × Nat)) (row : List Nat) (l k : Nat) : List Nat := (List.range k).filter (isLb p cl bd row l)
def baseL (row g : List Nat) : List Nat := (List.range row.length).map fun i => if i ∈ g then at0 row i - 1 else at0 row i
def lastP (p : Post) (cl : List Nat) (bd : List (Nat × Nat)) (row : List Nat) : Option Nat := sel (lOk cl bd row) (lBet p cl row) (List.range cl.length) none
def rowsOf (p : Post) (cl : List Nat) (bd : List (Nat × Nat)) (row : List Nat) : List (List Nat) := match lastP p cl bd row with
  | none => [row]
  | some l => sortN (wm (baseL row (gL p cl bd row l cl.length)) (sortK (gL p cl bd row l cl.length ++ lL p cl bd row l cl.length)) (gL p cl bd row l cl.length).length)
def rowsIn (p : Post) (cl : List Nat) (bd : List (Nat × Nat)) (house : Nat) : List (List Nat) := match oneIn p cl bd house with
  | none => []
  | some row => rowsOf p cl bd row
def mkR (p : Post) (cl : List Nat) (bd : List (Nat × Nat)) (house : Nat) (row : List Nat) (l : Nat) (a b : Nat) (x10 x11 x12 : Option MV) : MEnv := [some (.tup (cl.map natM)), some p.mv, some (.tup (bd.map pairM)), some (.int (house : Int)), some (rowM row), some (.int (l : Int)), some (natM (at0 cl l)), some (natM (at0 row l - 1)), some (.ref a), some (.ref b), x10, x11, x12, none]
theorem apnd0 (h : MH) (a b : List MV) (v : MV) (hv : flt v = true) (hl : a.length ≤ 16000000) : appendV (.ref h.length) v (h ++ [.lst a, .lst b]) = .ok .non (h ++ [.lst (a ++ [v]), .lst b]) := by
  simp [appendV, hv, hl]
theorem apnd1 (h : MH) (a b : List MV) (v : MV) (hv : flt v = true) (hl : b.length ≤ 16000000) : appendV (.ref (h.length + 1)) v (h ++ [.lst a, .lst b]) = .ok .non (h ++ [.lst a, .lst (b ++ [v])]) := by
  simp [appendV, hv, hl]
theorem drf0 (h r : MH) (a : List MV) : derf (h ++ .lst a :: r) (.ref h.length) = .lst a := by simp [derf]
theorem drf1 (h r : MH) (c : MC) (a : List MV) : derf (h ++ c :: .lst a :: r) (.ref (h.length + 1)) = .lst a := by simp [derf]
theorem rows_turn (hn : 6 ≤ n) {row : List Nat} (V : Rows p cl bd row) {l : Nat} (hl : l < cl.length) (al : 0 < at0 cl l) (house k : Nat) (hk : k < cl.length) (hc : cl.length ≤ 1000) (x12 : Option MV) :
    evSs none (callK none T (n - 1)) b0_rows_in (mkR p cl bd house row l h.length (h.length + 1) (some (.int (k : Int))) (some (natM (at0 cl k))) x12) (h ++ [.lst ((gL p cl bd row l k).map natM), .lst ((lL p cl bd row l k).map natM)]) =
      .ok (.nx, mkR p cl bd house row l h.length (h.length + 1) (some (.int (k : Int))) (some (natM (at0 cl k))) x12) (h ++ [.lst ((gL p cl bd row l (k + 1)).map natM), .lst ((lL p cl bd row l (k + 1)).map natM)]) := by
  have er := at_row (row := row) (show k < row.length by rw [V.lr]; exact hk)
  have eb := at_bd (bd := bd) (show k < bd.length by rw [V.lb]; exact hk)
  have c6 : at0 cl k ≤ 10 ^ 6 := V.cle _ (mem_getD 0 hk)
  have r3 : at0 row k ≤ 1000 := V.rle _ (mem_getD 0 (by rw [V.lr]; exact hk))
  have c6l : at0 cl l ≤ 10 ^ 6 := V.cle _ (mem_getD 0 hl)
  have r3l : at0 row l ≤ 1000 := V.rle _ (mem_getD 0 (by rw [V.lr]; exact hl))
  have lg : (gL p cl bd row l k).length ≤ 16000000 := Nat.le_trans (List.length_filter_le _ _) (by simp; omega)
  have ll : (lL p cl bd row l k).length ≤ 16000000 := Nat.le_trans (List.length_filter_le _ _) (by simp; omega)
  have eg : gL p cl bd row l (k + 1) = gL p cl bd row l k ++ if isGb p cl bd row l k then [k] else [] := filter_range _ _
  have el : lL p cl bd row l (k + 1) = lL p cl bd row l k ++ if isLb p cl bd row l k then [k] else [] := filter_range _ _
  rw [eg, el]
  unfold isLb isGb
  have sb1 := fun hp => sp_sign_between (n - 1) (by omega) p V.post (at0 cl k) (at0 row k - 1) (at0 cl l) (at0 row l - 1) hp c6 al c6l (by omega) (by omega)
  have sb2 := fun hp => sp_sign_between (n - 1) (by omega) p V.post (at0 cl k) (at0 row k) (at0 cl l) (at0 row l - 1) hp c6 al c6l (by omega) (by omega)
  have ap1 := fun (x y : List Nat) (hx : x.length ≤ 16000000) => apnd0 h (x.map natM) (y.map natM) (.int (k : Int)) rfl (by simpa using hx)
  have ap2 := fun (x y : List Nat) (hx : y.length ≤ 16000000) => apnd1 h (x.map natM) (y.map natM) (.int (k : Int)) rfl (by simpa using hx)
  have a1 := ap1 (gL p cl bd row l k) (lL p cl bd row l k) lg
  have a2 := ap2 (gL p cl bd row l k) (lL p cl bd row l k) ll
  generalize gL p cl bd row l k = gs at *
  generalize lL p cl bd row l k = ls at *
  unfold mkR
  generalize at0 cl k = c at *
  generalize at0 row k = s at *
  generalize lo0 bd k = B1 at *
  generalize hi0 bd k = B2 at *
  generalize at0 cl l = cL at *
  generalize at0 row l = sL at *
  by_cases k1 : 0 < c
  · have sb2' := sb2 k1
    by_cases k2 : B1 < s
    · obtain ⟨s', rfl⟩ : ∃ s', s = s' + 1 := ⟨s - 1, by omega⟩
      have sb1' := sb1 k1
      simp only [Nat.add_sub_cancel] at sb1'
      have k2' : (B1 : Int) < (s' : Int) + 1 := by omega
      simp only [Int.natCast_add, Int.natCast_one] at sb2' er
      by_cases k3 : qs p c s' cL (sL - 1) = 0
      · simp [b0_rows_in, evSs, evS, evB, evAll, evE, evEs, natM, rowM, er, eb, pairM, k1, k2, k2', k3, sb1', drf0, a1]
      · by_cases k4 : s' + 1 < B2
        · have k4' : (s' : Int) + 1 < (B2 : Int) := by omega
          by_cases k5 : qs p c (s' + 1) cL (sL - 1) = 0
          · simp [b0_rows_in, evSs, evS, evB, evAll, evE, evEs, natM, rowM, er, eb, pairM, k1, k2, k2', k3, k4, k4', k5, sb1', sb2', drf1, a2]
          · simp [b0_rows_in, evSs, evS, evB, evAll, evE, evEs, natM, rowM, er, eb, pairM, k1, k2, k2', k3, k4, k4', k5, sb1', sb2', drf1, a2]
        · have k4' : ¬ (s' : Int) + 1 < (B2 : Int) := by omega
          simp [b0_rows_in, evSs, evS, evB, evAll, evE, evEs, natM, rowM, er, eb, pairM, k1, k2, k2', k3, k4, k4', sb1', sb2', drf1, a2]
    · by_cases k4 : s < B2
      · by_cases k5 : qs p c s cL (sL - 1) = 0
        · simp [b0_rows_in, evSs, evS, evB, evAll, evE, evEs, natM, rowM, er, eb, pairM, k1, k2, k4, k5, sb2', drf1, a2]
        · simp [b0_rows_in, evSs, evS, evB, evAll, evE, evEs, natM, rowM, er, eb, pairM, k1, k2, k4, k5, sb2', drf1, a2]
      · simp [b0_rows_in, evSs, evS, evB, evAll, evE, evEs, natM, rowM, er, eb, pairM, k1, k2, k4]
  · simp [b0_rows_in, evSs, evS, evB, evAll, evE, evEs, natM, k1]
theorem grow_rows (hb : ∀ b ∈ bd, b.2 ≤ 1000) : ∀ (k : Nat) (row r : List Nat), Rows p cl bd row → grow p cl bd k row = some r → Rows p cl bd r
  | 0, row, r, V, e => by cases e; exact V
  | k + 1, row, r, V, e => by
    unfold grow at e
    cases q : pick p cl bd row with
    | none => rw [q] at e; cases e
    | some i =>
      rw [q] at e
      obtain ⟨h1, h2⟩ := pick_ok q
      exact grow_rows hb k _ r (V.grow hb h1 h2) e
theorem last_ok {row : List Nat} {l : Nat} (h : lastP p cl bd row = some l) : l < cl.length ∧ 0 < at0 cl l ∧ lo0 bd l < at0 row l := by
  rcases sel_ok _ _ _ _ _ h with ⟨q1, q2⟩ | q
  · unfold lOk at q1
    rw [Bool.and_eq_true, decide_eq_true_eq, decide_eq_true_eq] at q1
    exact ⟨List.mem_range.mp q2, q1.1, q1.2⟩
  · cases q
theorem rows_loop (hn : 6 ≤ n) {row : List Nat} (V : Rows p cl bd row) {l : Nat} (hl : l < cl.length) (al : 0 < at0 cl l) (house : Nat) (hc : cl.length ≤ 1000) :
    ∃ x10 x11, evS none (callK none T (n - 1)) l0_rows_in (mkR p cl bd house row l h.length (h.length + 1) none none none) (h ++ [.lst [], .lst []]) =
      .ok (.nx, mkR p cl bd house row l h.length (h.length + 1) x10 x11 none) (h ++ [.lst ((gL p cl bd row l cl.length).map natM), .lst ((lL p cl bd row l cl.length).map natM)]) := by
  obtain ⟨e2, h2, q1, x10, x11, q2, q3⟩ := for_inv (L := none) (G := callK none T (n - 1)) (t := .tup (.cons (.nm 10) (.cons (.nm 11) .nil))) (it := .enum (.var 0)) (b := b0_rows_in) (e := mkR p cl bd house row l h.length (h.length + 1) none none none) (h := h ++ [.lst [], .lst []]) (List.range cl.length) (fun (i : Nat) => MV.tup [.int (i : Int), natM (at0 cl i)])
    (fun k e H => ∃ x10 x11, e = mkR p cl bd house row l h.length (h.length + 1) x10 x11 none ∧ H = h ++ [.lst ((gL p cl bd row l k).map natM), .lst ((lL p cl bd row l k).map natM)])
    (by simp [evI, evE, mkR, enumN]) ⟨none, none, rfl, rfl⟩ (fun k x e H hx ⟨x10, x11, he, hH⟩ => by
      obtain ⟨rfl, hk⟩ := range_get hx
      subst he
      subst hH
      exact ⟨_, _, _, rfl, rows_turn hn V hl al house x hk hc none, _, _, rfl, rfl⟩)
  subst q2
  subst q3
  rw [List.length_range] at q1
  exact ⟨x10, x11, q1⟩
theorem rows_base (G : MM.Callee) {row g : List Nat} {l a b : Nat} (house : Nat) (hc : row.length ≤ 1000) (x10 x11 : Option MV) (H : MH) (hg : seqOf H (.ref a) = some (g.map natM)) (hp : ∀ i ∈ g, 0 < at0 row i) : evF G c0_rows_in (mkR p cl bd house row l a b x10 x11 none) H = .ok ((baseL row g).map natM) H := by
  have c := comp_map (G := G) (own := [10, 13]) (tg := .tup (.cons (.nm 10) (.cons (.nm 13) .nil))) (it := .enum (.var 4)) (c := .tt) (elt := .ite (.val (.cmp .isIn (.var 10) (.var 8))) (.bin .sub (.var 13) (.int 1)) (.var 13)) (e := mkR p cl bd house row l a b x10 x11 none) (h := H)
    (List.range row.length) (fun (i : Nat) => MV.tup [.int (i : Int), natM (at0 row i)]) (fun _ => true) (fun i => natM (if i ∈ g then at0 row i - 1 else at0 row i))
    (by simp [evI, evE, mkR, enumN, rowM]) (fun i hi => by
      refine ⟨_, rfl, rfl, fun _ => ?_⟩
      have cm : cmpV .isIn (.int (i : Int)) (.ref a) H = .ok (.bl (decide (i ∈ g))) H := by
        show (match seqOf H (.ref a) with
          | some ys => okIf (shp 50 (MV.int (i : Int)) && shpL 50 ys) (MV.bl (inL (MV.int (i : Int)) ys)) H
          | none => Res.bad) = _
        rw [hg]
        show okIf (shp 50 (MV.int (i : Int)) && shpL 50 (g.map natM)) (MV.bl (inL (MV.int (i : Int)) (g.map natM))) H = _
        rw [shp_nats 49, inL_nat]
        rfl
      by_cases k : i ∈ g
      · have := hp i k
        have e : ((at0 row i : Nat) : Int) - 1 = ((at0 row i - 1 : Nat) : Int) := by omega
        simp [evE, evB, cm, k, natM, e, mkR, wipeM]
      · simp [evE, evB, cm, k, natM, mkR, wipeM]) (by simp; omega)
  rw [List.filter_eq_self.mpr (fun _ _ => rfl)] at c
  show evF G (.comp [10, 13] _ _ _ _) _ _ = _
  rw [c]
  congr 1
  unfold baseL
  rw [List.map_map]
  rfl
end
end G
set_option Elab.async false
set_option linter.all false
set_option maxRecDepth 100000
/-! S9: rows_in, put together. -/
namespace G
open PySem MM
section
variable {n : Nat} {p : Post} {cl : List Nat} {bd : List (Nat × Nat)} {h : MH}
theorem row_tup (row : List Nat) (H : MH) : RowAt (rowM row) row H := fun i x e => by
  show (match (seqOf H (.tup (row.map natM))).bind (L2.atI · (i : Int)) with | some v => Res.ok v _ | none => .bad) = _
  rw [sq_tup, Option.bind_some, at_map natM e]
  rfl
theorem gL_lt {row : List Nat} {l i : Nat} (h : i ∈ gL p cl bd row l cl.length) : i < cl.length ∧ lo0 bd i < at0 row i := by
  obtain ⟨h1, h2⟩ := List.mem_filter.mp h
  unfold isGb at h2
  rw [Bool.and_eq_true, Bool.and_eq_true, decide_eq_true_eq, decide_eq_true_eq] at h2
  exact ⟨List.mem_range.mp h1, h2.1.2⟩
theorem places_lt {row : List Nat} {l i : Nat} (h : i ∈ sortK (gL p cl bd row l cl.length ++ lL p cl bd row l cl.length)) : i < cl.length := by
  rcases List.mem_append.mp ((mem_sortK _ _).mp h) with h | h
  · exact List.mem_range.mp (List.mem_filter.mp h).1
  · exact List.mem_range.mp (List.mem_filter.mp h).1
theorem filter_two (f g : Nat → Bool) (hd : ∀ i, ¬ (f i = true ∧ g i = true)) : ∀ l : List Nat, (l.filter f).length + (l.filter g).length ≤ l.length
  | [] => Nat.le_refl _
  | x :: l => by
    have ih := filter_two f g hd l
    have := hd x
    cases q : f x <;> cases q2 : g x <;> simp [q, q2] at this ⊢ <;> omega
theorem places_len {row : List Nat} {l : Nat} : (sortK (gL p cl bd row l cl.length ++ lL p cl bd row l cl.length)).length ≤ cl.length := by
  rw [len_sortK, List.length_append]
  refine Nat.le_trans (filter_two _ _ (fun i ⟨h1, h2⟩ => ?_) (List.range cl.length)) (by simp)
  unfold isLb at h2
  rw [h1] at h2
  simp at h2
theorem sp_rows_in (hn : cl.length + 8 ≤ n) (hc : cl.length ≤ 16) (h0 : 0 < cl.length) (V : Rows p cl bd (bd.map (·.1))) (hb : ∀ b ∈ bd, b.2 ≤ 1000) (house : Nat) (hh : house ≤ 1000000) :
    callK none T n 73 [.tup (cl.map natM), p.mv, .tup (bd.map pairM), .int (house : Int)] h = .ok (.lst ((rowsIn p cl bd house).map rowM)) h := by
  rw [call_at T_rows_in (by omega)]
  have o := sp_one_in (n := n - 1) (h := h) (by omega) V hb (by rw [V.lb]; omega) house hh
  unfold rowsIn
  cases q : oneIn p cl bd house with
  | none =>
    rw [q] at o
    simp [runFn, fn_rows_in, b_rows_in, finFn, evSs, evS, evE, evEs, evB, evF, evT, o, thk, thkL, thaw, thawL]
  | some row =>
    rw [q] at o
    have W : Rows p cl bd row := by
      unfold oneIn at q
      split at q
      · cases q
      · exact grow_rows hb _ _ _ V q
    have lg := sp_least_given (n := n - 1) (h := h) (by omega) W (row_tup row h)
    unfold rowsOf
    dsimp only at o ⊢
    change callK none T (n - 1) 70 _ h = .ok (optM (lastP p cl bd row)) h at lg
    have t0 := thk_nats h.length h row
    have t1 := thaw_nats h.length h row
    cases ql : lastP p cl bd row with
    | none =>
      rw [ql] at lg
      unfold rowM at o lg
      simp [runFn, fn_rows_in, b_rows_in, finFn, evSs, evS, evE, evEs, evB, evF, evT, o, lg, optM, thk, thkL, thaw, thawL, t0, t1, rowM]
    | some l =>
      rw [ql] at lg
      obtain ⟨l1, l2, l3⟩ := last_ok ql
      obtain ⟨x10, x11, lp⟩ := rows_loop (n := n) (h := h) (by omega) W l1 l2 house (by omega)
      have hrl : row.length = cl.length := W.lr
      have lb := rows_base (p := p) (cl := cl) (bd := bd) (callK none T (n - 1)) (row := row) (g := gL p cl bd row l cl.length) (l := l) (a := h.length) (b := h.length + 1) house (by omega) x10 x11 (h ++ [.lst ((gL p cl bd row l cl.length).map natM), .lst ((lL p cl bd row l cl.length).map natM)]) (by simp [seqOf]) (fun i hi => by have := (gL_lt hi).2; omega)
      have hbl : (baseL row (gL p cl bd row l cl.length)).length = cl.length := by unfold baseL; simp [hrl]
      have pl := places_len (p := p) (cl := cl) (bd := bd) (row := row) (l := l)
      have wmr := sp_with_more (sortK (gL p cl bd row l cl.length ++ lL p cl bd row l cl.length)) (n - 1) (baseL row (gL p cl bd row l cl.length)) (gL p cl bd row l cl.length).length (h ++ [.lst ((gL p cl bd row l cl.length).map natM), .lst ((lL p cl bd row l cl.length).map natM)])
        (by omega) (by omega) (by omega) (fun i hi => by rw [hbl]; exact places_lt hi)
      have srt := sortV_nats (gL p cl bd row l cl.length ++ lL p cl bd row l cl.length)
      have gl : (gL p cl bd row l cl.length).length ≤ cl.length := Nat.le_trans (List.length_filter_le _ _) (by simp)
      have ll : (lL p cl bd row l cl.length).length ≤ cl.length := Nat.le_trans (List.length_filter_le _ _) (by simp)
      have ne : ∀ r ∈ wm (baseL row (gL p cl bd row l cl.length)) (sortK (gL p cl bd row l cl.length ++ lL p cl bd row l cl.length)) (gL p cl bd row l cl.length).length, r ≠ [] := fun r hr e => by
        have : ∀ (ps b : List Nat) (m : Nat), ∀ r ∈ wm b ps m, r.length = b.length := by
          intro ps
          induction ps with
          | nil =>
            intro b m r hr
            cases m with
            | zero => rw [List.mem_singleton.mp hr]
            | succ m => cases hr
          | cons i ps ih =>
            intro b m r hr
            cases m with
            | zero => rw [List.mem_singleton.mp hr]
            | succ m =>
              rw [wm_eq] at hr
              rcases List.mem_append.mp hr with h | h
              · rw [ih _ _ _ h, len_bump]
              · exact ih _ _ _ h
        have := this _ _ _ r hr
        rw [e, hbl] at this
        simp at this
        omega
      have sr := sortV_rows _ ne
      dsimp only
      generalize hW : wm (baseL row (gL p cl bd row l cl.length)) (sortK (gL p cl bd row l cl.length ++ lL p cl bd row l cl.length)) (gL p cl bd row l cl.length).length = W9 at *
      have hcl := at_row (row := cl) l1
      have hrow := at_row (row := row) (show l < row.length by rw [hrl]; exact l1)
      have e1 : ((at0 row l : Nat) : Int) - 1 = ((at0 row l - 1 : Nat) : Int) := by omega
      generalize gL p cl bd row l cl.length = gs at *
      generalize lL p cl bd row l cl.length = ls at *
      have d0 := drf0 h [.lst (ls.map natM)] (gs.map natM)
      have d1 := drf1 h [] (.lst (gs.map natM)) (ls.map natM)
      have sq : seqOf (h ++ [.lst (gs.map natM), .lst (ls.map natM)]) (.ref h.length) = some (gs.map natM) := by simp [seqOf]
      have t2 := thk_rows h.length (h ++ [.lst (gs.map natM), .lst (ls.map natM)]) (sortN W9)
      have t3 := thaw_rows h.length (h ++ [.lst (gs.map natM), .lst (ls.map natM)]) (sortN W9)
      have bl : biV .len [.ref h.length] (h ++ [.lst (gs.map natM), .lst (ls.map natM)]) = .ok (.int gs.length) (h ++ [.lst (gs.map natM), .lst (ls.map natM)]) := by simp [biV, sq]
      have lk : lenOk (gs.length + ls.length) = true := len_ok (by omega)
      rw [List.map_append] at srt
      unfold mkR at lp lb
      unfold rowM at o lg lp lb
      have wmr' : callK none T (n - 1) 71 [.tup ((baseL row gs).map natM), .lst ((sortK (gs ++ ls)).map natM), .int (gs.length : Int)] (h ++ [.lst (gs.map natM), .lst (ls.map natM)]) = .ok (.lst (W9.map rowM)) (h ++ [.lst (gs.map natM), .lst (ls.map natM)]) := wmr
      clear wmr
      simp only [natM] at lp lb
      simp [runFn, fn_rows_in, b_rows_in, finFn, evSs, evS, evE, evEs, evB, evF, evT, evTs, o, lg, optM, hcl, hrow, e1, lp, lb, d0, d1, sq, srt, lstOf, wmr', sr, thk, thaw, t2, t3, fltL, bl, lk]
end
end G
set_option Elab.async false
set_option linter.all false
set_option maxRecDepth 100000
/-! Q4: rows_in are the right rows. -/
namespace G
open PySem MM
theorem sel_spec {ok : Nat → Bool} {bt : Nat → Nat → Bool} (P : Nat → Prop) (hP : ∀ i, ok i = true → P i) (asym : ∀ a b, P a → P b → bt a b = true → bt b a = false) (ntr : ∀ a b c, P a → P b → P c → bt a b = false → bt b c = false → bt a c = false) (irr : ∀ a, P a → bt a a = false) :
    ∀ (l : List Nat) (b : Option Nat), (∀ j, b = some j → P j) →
      (∀ i, sel ok bt l b = some i → P i ∧ (∀ j ∈ l, ok j = true → bt j i = false) ∧ (∀ j, b = some j → bt j i = false)) ∧ (sel ok bt l b = none → b = none ∧ ∀ j ∈ l, ok j = false)
  | [], b, hb => by
    refine ⟨fun i h => ⟨hb i h, fun j hj _ => absurd hj List.not_mem_nil, fun j hj => ?_⟩, fun h => ⟨h, fun j hj => absurd hj List.not_mem_nil⟩⟩
    have h : b = some i := h
    rw [h] at hj
    cases hj
    exact irr _ (hb _ h)
  | i :: l, b, hb => by
    have hs : ∀ j, selS ok bt i b = some j → P j := fun j hj => by
      unfold selS at hj
      split at hj
      · rename_i c
        cases b with
        | none => cases hj; exact hP i c
        | some k =>
          dsimp only at hj
          split at hj
          · cases hj; exact hP i c
          · cases hj; exact hb _ rfl
      · exact hb j hj
    obtain ⟨h1, h2⟩ := sel_spec P hP asym ntr irr l (selS ok bt i b) hs
    constructor
    · intro x hx
      obtain ⟨q1, q2, q3⟩ := h1 x hx
      refine ⟨q1, fun j hj hok => ?_, fun j hj => ?_⟩
      · rcases List.mem_cons.mp hj with e | e
        · subst e
          unfold selS at q3
          rw [if_pos hok] at q3
          cases b with
          | none => exact q3 j rfl
          | some k =>
            dsimp only at q3
            split at q3
            · exact q3 j rfl
            · rename_i c
              exact ntr _ _ _ (hP j hok) (hb k rfl) q1 (by simpa using c) (q3 k rfl)
        · exact q2 j e hok
      · subst hj
        unfold selS at q3
        split at q3
        · rename_i c
          dsimp only at q3
          split at q3
          · rename_i d
            exact ntr _ _ _ (hb j rfl) (hP i c) q1 (asym _ _ (hP i c) (hb j rfl) d) (q3 i rfl)
          · exact q3 j rfl
        · exact q3 j rfl
    · intro hx
      obtain ⟨q1, q2⟩ := h2 hx
      unfold selS at q1
      split at q1
      · cases b with
        | none => cases q1
        | some k =>
          dsimp only at q1
          split at q1 <;> cases q1
      · rename_i c
        refine ⟨q1, fun j hj => ?_⟩
        rcases List.mem_cons.mp hj with e | e
        · subst e; simpa using c
        · exact q2 j e
section
variable {p : Post} {cl : List Nat} {bd : List (Nat × Nat)}
abbrev RightP (p : Post) (cl : List Nat) (bd : List (Nat × Nat)) (r : List Nat) : Prop := Right (actc cl) (gtq p cl) cl.length (lo0 bd) (hi0 bd) r
theorem gOk_iff {row : List Nat} {i : Nat} : gOk cl bd row i = true ↔ actc cl i = true ∧ at0 row i < hi0 bd i := by
  show (decide (0 < at0 cl i) && decide (at0 row i < hi0 bd i)) = true ↔ decide (0 < at0 cl i) = true ∧ _
  rw [Bool.and_eq_true, decide_eq_true_eq, decide_eq_true_eq]
theorem lOk_iff {row : List Nat} {i : Nat} : lOk cl bd row i = true ↔ actc cl i = true ∧ lo0 bd i < at0 row i := by
  show (decide (0 < at0 cl i) && decide (lo0 bd i < at0 row i)) = true ↔ decide (0 < at0 cl i) = true ∧ _
  rw [Bool.and_eq_true, decide_eq_true_eq, decide_eq_true_eq]
theorem gBet_iff {row : List Nat} {i j : Nat} : gBet p cl row i j = false ↔ ¬ gtq p cl i (at0 row i) j (at0 row j) := by
  show decide (0 < qs p (at0 cl i) (at0 row i) (at0 cl j) (at0 row j)) = false ↔ _
  rw [decide_eq_false_iff_not]; rfl
theorem lBet_iff {row : List Nat} {i j : Nat} : lBet p cl row i j = false ↔ ¬ gtq p cl j (at0 row j - 1) i (at0 row i - 1) := by
  show decide (qs p (at0 cl i) (at0 row i - 1) (at0 cl j) (at0 row j - 1) < 0) = false ↔ _
  rw [decide_eq_false_iff_not, qs_neg]
theorem pick_next (hp : p.Ok) {row : List Nat} {i : Nat} (h : pick p cl bd row = some i) : Next (actc cl) (gtq p cl) cl.length (hi0 bd) row i := by
  have K := kord hp cl
  obtain ⟨h1, h2⟩ := pick_ok h
  obtain ⟨h3, h4⟩ := gOk_iff.mp h2
  refine ⟨h1, h3, h4, fun j hj aj bj => ?_⟩
  have := ((sel_spec (ok := gOk cl bd row) (bt := gBet p cl row) (fun i => actc cl i = true) (fun i h => (gOk_iff.mp h).1)
    (fun a b pa pb h => gBet_iff.mpr (K.asym _ _ _ _ pa pb (Classical.byContradiction fun c => by rw [gBet_iff.mpr c] at h; cases h)))
    (fun a b c pa pb pc h1 h2 => gBet_iff.mpr (K.ntr _ _ _ _ _ _ pa pb pc (gBet_iff.mp h1) (gBet_iff.mp h2)))
    (fun a pa => gBet_iff.mpr (K.irr _ _ pa)) (List.range cl.length) none (fun j hj => nomatch hj)).1 i h).2.1 j (List.mem_range.mpr hj) (gOk_iff.mpr ⟨aj, bj⟩)
  exact gBet_iff.mp this
theorem pick_none (hp : p.Ok) {row : List Nat} (h : pick p cl bd row = none) : ∀ j, j < cl.length → actc cl j = true → ¬ at0 row j < hi0 bd j := fun j hj aj bj => by
  have K := kord hp cl
  have := ((sel_spec (ok := gOk cl bd row) (bt := gBet p cl row) (fun i => actc cl i = true) (fun i h => (gOk_iff.mp h).1)
    (fun a b pa pb h => gBet_iff.mpr (K.asym _ _ _ _ pa pb (Classical.byContradiction fun c => by rw [gBet_iff.mpr c] at h; cases h)))
    (fun a b c pa pb pc h1 h2 => gBet_iff.mpr (K.ntr _ _ _ _ _ _ pa pb pc (gBet_iff.mp h1) (gBet_iff.mp h2)))
    (fun a pa => gBet_iff.mpr (K.irr _ _ pa)) (List.range cl.length) none (fun j hj => nomatch hj)).2 h).2 j (List.mem_range.mpr hj)
  rw [gOk_iff.mpr ⟨aj, bj⟩] at this
  cases this
theorem lsel (hp : p.Ok) (row : List Nat) : (∀ i, sel (lOk cl bd row) (lBet p cl row) (List.range cl.length) none = some i → actc cl i = true ∧ (∀ j ∈ List.range cl.length, lOk cl bd row j = true → lBet p cl row j i = false) ∧ (∀ j, none = some j → lBet p cl row j i = false)) ∧ (sel (lOk cl bd row) (lBet p cl row) (List.range cl.length) none = none → (none : Option Nat) = none ∧ ∀ j ∈ List.range cl.length, lOk cl bd row j = false) :=
  sel_spec (ok := lOk cl bd row) (bt := lBet p cl row) (fun i => actc cl i = true) (fun i h => (lOk_iff.mp h).1)
    (fun a b pa pb h => lBet_iff.mpr ((kord hp cl).asym _ _ _ _ pb pa (Classical.byContradiction fun c => by rw [lBet_iff.mpr c] at h; cases h)))
    (fun a b c pa pb pc h1 h2 => lBet_iff.mpr ((kord hp cl).ntr _ _ _ _ _ _ pc pb pa (lBet_iff.mp h2) (lBet_iff.mp h1)))
    (fun a pa => lBet_iff.mpr ((kord hp cl).irr _ _ pa)) (List.range cl.length) none (fun j hj => nomatch hj)
theorem last_last (hp : p.Ok) {row : List Nat} {l : Nat} (h : lastP p cl bd row = some l) : Last (actc cl) (gtq p cl) cl.length (lo0 bd) row l := by
  obtain ⟨h1, h2, h3⟩ := last_ok h
  refine ⟨h1, by unfold actc; rw [decide_eq_true_eq]; exact h2, h3, fun i hi ai gi => ?_⟩
  exact lBet_iff.mp (((lsel hp row).1 l h).2.1 i (List.mem_range.mpr hi) (lOk_iff.mpr ⟨ai, gi⟩))
theorem last_none (hp : p.Ok) {row : List Nat} (h : lastP p cl bd row = none) : ∀ i, i < cl.length → actc cl i = true → ¬ lo0 bd i < at0 row i := fun i hi ai gi => by
  have := ((lsel hp row).2 h).2 i (List.mem_range.mpr hi)
  rw [lOk_iff.mpr ⟨ai, gi⟩] at this
  cases this
theorem grow_some (hp : p.Ok) : ∀ (k : Nat) (row r : List Nat), RightP p cl bd row → grow p cl bd k row = some r → RightP p cl bd r ∧ r.sum = row.sum + k
  | 0, row, r, R, e => by cases e; exact ⟨R, rfl⟩
  | k + 1, row, r, R, e => by
    unfold grow at e
    cases q : pick p cl bd row with
    | none => rw [q] at e; cases e
    | some i =>
      rw [q] at e
      have N := pick_next hp q
      obtain ⟨h1, h2⟩ := grow_some hp k (bump row i) r (right_bump (kord hp cl) R N) e
      rw [sum_bump row i (by rw [R.len]; exact N.lt)] at h2
      exact ⟨h1, by omega⟩
theorem grow_none (hp : p.Ok) : ∀ (k : Nat) (row : List Nat), RightP p cl bd row → grow p cl bd k row = none → ∀ r, RightP p cl bd r → r.sum ≠ row.sum + k
  | 0, row, R, e, r, Q, hs => nomatch e
  | k + 1, row, R, e, r, Q, hs => by
    unfold grow at e
    cases q : pick p cl bd row with
    | none =>
      obtain ⟨i, h1, h2⟩ := exists_lt row r (by rw [R.len, Q.len]) (by omega)
      rw [R.len] at h1
      have ai : actc cl i = true := by
        cases c : actc cl i with
        | true => rfl
        | false => have := Q.off i h1 c; have := R.low i h1; omega
      have := Q.high i h1 ai
      exact pick_none hp q i h1 ai (by omega)
    | some i =>
      rw [q] at e
      have N := pick_next hp q
      exact grow_none hp k (bump row i) (right_bump (kord hp cl) R N) e r Q (by rw [sum_bump row i (by rw [R.len]; exact N.lt)]; omega)
theorem sum_range_map (f g : Nat → Nat) (q : Nat → Bool) (h : ∀ i, q i = true → f i + 1 = g i) (h2 : ∀ i, q i = false → f i = g i) : ∀ l : List Nat, (l.map f).sum + (l.filter q).length = (l.map g).sum
  | [] => rfl
  | x :: l => by
    have ih := sum_range_map f g q h h2 l
    cases c : q x with
    | true => have := h x c; simp [c]; omega
    | false => have := h2 x c; simp [c]; omega
theorem range_at (r : List Nat) : (List.range r.length).map (at0 r) = r := by
  refine ext0 (by simp) fun i hi => ?_
  have hi : i < r.length := by simpa using hi
  show ((List.range r.length).map (at0 r)).getD i 0 = _
  rw [List.getD_eq_getElem?_getD, List.getElem?_map, List.getElem?_range hi]
  rfl
theorem at_rmap (f : Nat → Nat) (k i : Nat) (h : i < k) : at0 ((List.range k).map f) i = f i := by
  show ((List.range k).map f).getD i 0 = _
  rw [List.getD_eq_getElem?_getD, List.getElem?_map, List.getElem?_range h]
  rfl
theorem isGb_iff {row : List Nat} {l i : Nat} : isGb p cl bd row l i = true ↔ IsG (actc cl) (gtq p cl) (lo0 bd) row l i := by
  unfold isGb IsG actc
  simp only [Bool.and_eq_true, decide_eq_true_eq, qs_zero, and_assoc]
theorem isLb_iff {row : List Nat} {l i : Nat} : isLb p cl bd row l i = true ↔ IsL (actc cl) (gtq p cl) (lo0 bd) (hi0 bd) row l i := by
  unfold isLb IsL
  rw [← isGb_iff]
  unfold actc
  simp only [Bool.and_eq_true, decide_eq_true_eq, qs_zero, and_assoc]
  cases isGb p cl bd row l i <;> simp
theorem gl_nodup {row : List Nat} {l : Nat} : (sortK (gL p cl bd row l cl.length ++ lL p cl bd row l cl.length)).Nodup := by
  apply nodup_sortK
  refine List.nodup_append.mpr ⟨List.nodup_range.filter _, List.nodup_range.filter _, fun a ha b hb e => ?_⟩
  subst e
  have h1 := (List.mem_filter.mp ha).2
  have h2 := (List.mem_filter.mp hb).2
  unfold isLb at h2
  rw [h1] at h2
  simp at h2
/-- what is needed to deal seats -/
structure Deal (p : Post) (cl : List Nat) (bd : List (Nat × Nat)) : Prop where
  post : p.Ok
  lb : bd.length = cl.length
  le : ∀ i, i < cl.length → actc cl i = true → lo0 bd i ≤ hi0 bd i
theorem lows_at {i : Nat} (h : i < bd.length) : at0 (bd.map (·.1)) i = lo0 bd i := by
  show (bd.map (·.1)).getD i 0 = (bd.getD i (0, 0)).1
  rw [List.getD_eq_getElem?_getD, List.getD_eq_getElem?_getD, List.getElem?_map, List.getElem?_eq_getElem h]
  rfl
theorem Deal.low (D : Deal p cl bd) : RightP p cl bd (bd.map (·.1)) :=
  right_low (by rw [List.length_map, D.lb]) (fun i h => lows_at (by rw [D.lb]; exact h)) D.le
theorem rowsOf_spec (D : Deal p cl bd) {row : List Nat} (R : RightP p cl bd row) : Asc (rowsOf p cl bd row) ∧ ∀ r, r ∈ rowsOf p cl bd row ↔ RightP p cl bd r ∧ r.sum = row.sum := by
  have K := kord D.post cl
  unfold rowsOf
  cases q : lastP p cl bd row with
  | none =>
    refine ⟨List.pairwise_singleton _ _, fun r => ?_⟩
    rw [List.mem_singleton]
    constructor
    · intro e; subst e; exact ⟨R, rfl⟩
    · rintro ⟨Q, hs⟩
      refine (same_of_sum (by rw [R.len, Q.len]) (fun i hi => ?_) hs)
      rw [Q.len] at hi
      have h1 := Q.low i hi
      cases c : actc cl i with
      | true =>
        have := last_none D.post q i hi c
        omega
      | false => rw [R.off i hi c]; exact h1
  | some l =>
    dsimp only
    have V := last_last D.post q
    have pl : ∀ i, i ∈ sortK (gL p cl bd row l cl.length ++ lL p cl bd row l cl.length) ↔ i < cl.length ∧ (IsG (actc cl) (gtq p cl) (lo0 bd) row l i ∨ IsL (actc cl) (gtq p cl) (lo0 bd) (hi0 bd) row l i) := fun i => by
      rw [mem_sortK, List.mem_append]
      unfold gL lL
      rw [List.mem_filter, List.mem_filter, List.mem_range, isGb_iff, isLb_iff]
      constructor
      · rintro (h | h)
        · exact ⟨h.1, .inl h.2⟩
        · exact ⟨h.1, .inr h.2⟩
      · rintro ⟨h, g | g⟩
        · exact .inl ⟨h, g⟩
        · exact .inr ⟨h, g⟩
    have bl : (baseL row (gL p cl bd row l cl.length)).length = cl.length := by unfold baseL; simp [R.len]
    have mg : ∀ i, i < cl.length → (i ∈ gL p cl bd row l cl.length ↔ IsG (actc cl) (gtq p cl) (lo0 bd) row l i) := fun i hi => by
      unfold gL
      rw [List.mem_filter, List.mem_range, isGb_iff]
      exact ⟨fun h => h.2, fun h => ⟨hi, h⟩⟩
    have bat : ∀ i, i < cl.length → at0 (baseL row (gL p cl bd row l cl.length)) i = if i ∈ gL p cl bd row l cl.length then at0 row i - 1 else at0 row i := fun i hi => by
      unfold baseL
      exact at_rmap _ _ _ (by rw [R.len]; exact hi)
    have bs : (baseL row (gL p cl bd row l cl.length)).sum + (gL p cl bd row l cl.length).length = row.sum := by
      have e1 : baseL row (gL p cl bd row l cl.length) = (List.range cl.length).map fun i => if isGb p cl bd row l i = true then at0 row i - 1 else at0 row i := by
        unfold baseL
        rw [R.len]
        apply List.map_congr_left
        intro i hi
        have hi := List.mem_range.mp hi
        by_cases c : isGb p cl bd row l i = true
        · rw [if_pos c, if_pos ((mg i hi).mpr (isGb_iff.mp c))]
        · rw [if_neg c, if_neg fun h => c (isGb_iff.mpr ((mg i hi).mp h))]
      have e2 : row.sum = ((List.range cl.length).map (at0 row)).sum := by rw [← R.len, range_at]
      rw [e1, e2]
      unfold gL
      refine sum_range_map _ _ (isGb p cl bd row l) (fun i h => ?_) (fun i h => ?_) _
      · rw [if_pos h]
        have := (isGb_iff.mp h).2.1
        omega
      · rw [if_neg (by rw [h]; exact Bool.false_ne_true)]
    have nd := gl_nodup (p := p) (cl := cl) (bd := bd) (row := row) (l := l)
    have hlt : ∀ i ∈ sortK (gL p cl bd row l cl.length ++ lL p cl bd row l cl.length), i < (baseL row (gL p cl bd row l cl.length)).length := fun i hi => by rw [bl]; exact ((pl i).mp hi).1
    refine ⟨asc_sortN _ (wm_nodup _ _ _ nd hlt), fun r => ?_⟩
    rw [mem_sortN, mem_wm _ _ _ r nd hlt]
    exact rows_mem K R V pl bl (fun i hi g => by rw [bat i hi, if_pos ((mg i hi).mpr g)]) (fun i hi g => by rw [bat i hi, if_neg fun h => g ((mg i hi).mp h)]) bs r
theorem oneIn_some (D : Deal p cl bd) {house : Nat} {row : List Nat} (h : oneIn p cl bd house = some row) : RightP p cl bd row ∧ row.sum = house := by
  unfold oneIn at h
  split at h
  · cases h
  · rename_i c
    obtain ⟨h1, h2⟩ := grow_some D.post _ _ _ D.low h
    exact ⟨h1, by omega⟩
theorem oneIn_none (D : Deal p cl bd) {house : Nat} (h : oneIn p cl bd house = none) : ∀ r, RightP p cl bd r → r.sum ≠ house := fun r Q hs => by
  unfold oneIn at h
  split at h
  · rename_i c
    have := right_sum Q (lows := bd.map (·.1)) (by rw [List.length_map, D.lb]) (fun i h => lows_at (by rw [D.lb]; exact h))
    omega
  · rename_i c
    exact grow_none D.post _ _ D.low h r Q (by omega)
theorem rowsIn_spec (D : Deal p cl bd) (house : Nat) : Asc (rowsIn p cl bd house) ∧ ∀ r, r ∈ rowsIn p cl bd house ↔ RightP p cl bd r ∧ r.sum = house := by
  unfold rowsIn
  cases q : oneIn p cl bd house with
  | none => exact ⟨List.Pairwise.nil, fun r => ⟨fun h => absurd h List.not_mem_nil, fun ⟨Q, hs⟩ => absurd hs (oneIn_none D q r Q)⟩⟩
  | some row =>
    obtain ⟨R, hs⟩ := oneIn_some D q
    have := rowsOf_spec D R
    rw [hs] at this
    exact this
end
end G
set_option Elab.async false
set_option linter.all false
set_option maxRecDepth 100000
/-! S10: the law's own rows by quotients. -/
namespace G
open PySem MM
section
variable {n : Nat} {p : Post} {cl : List Nat} {h : MH}
theorem sp_plain_square (n : Nat) (hn : 1 ≤ n) (p : Post) (hp : p.Ok) (s : Nat) (hs : s ≤ 1000) (h : MH) : callK none T n 87 [p.mv, .int s] h = .ok (.tup [.int (num p s), .int (den p s)]) h := by
  rw [call_at T__law_plain_square (by omega)]
  have ss : Sm (s : Int) := small_nat (k := 10) (by omega) (by omega)
  have ss1 : Sm ((s : Int) + 1) := small_nat (n := s + 1) (k := 10) (by omega) (by omega)
  cases p with
  | root =>
    simp [runFn, fn__law_plain_square, b__law_plain_square, finFn, evSs, evS, evE, evEs, evB, Post.mv, cv_eqS, str_f1, str_f2, str_f3, str_e2, mul_ok ss ss1, num, den]
  | middle =>
    have m1 : mulOk 2 (s : Int) = true := mul_ok (small_nat (n := 2) (k := 2) (by omega) (by omega)) ss
    have m2 : mulOk (2 * (s : Int)) ((s : Int) + 1) = true := mul_ok (small_nat (n := 2 * s) (k := 11) (by omega) (by omega)) ss1
    have b1 : 2 * s * (s + 1) ≤ 2000 * 1001 := Nat.mul_le_mul (by omega) (by omega)
    have p1 : powOk (2 * (s : Int) * ((s : Int) + 1)) 2 = true := pow_ok (by omega) (by omega) (by
      have : (2 * (s : Int) * ((s : Int) + 1)) = ((2 * s * (s + 1) : Nat) : Int) := by simp
      rw [this, Int.natAbs_natCast]; omega)
    have p2 : powOk (2 * (s : Int) + 1) 2 = true := pow_ok (by omega) (by omega) (by omega)
    have e : (2 * (s : Int) * ((s : Int) + 1)) ^ 2 = 4 * (s : Int) ^ 2 * ((s : Int) + 1) ^ 2 := by grind
    simp [runFn, fn__law_plain_square, b__law_plain_square, finFn, evSs, evS, evE, evEs, evB, Post.mv, cv_eqS, str_f1, str_f2, str_f3, str_ne1, str_e1, m1, m2, p1, p2, num, den, e]
  | plus a b =>
    obtain ⟨b0, ab, b1, _⟩ := hp
    have lb : s * b ≤ 1000 * 100 := Nat.mul_le_mul hs b1
    have m1 : mulOk (s : Int) (b : Int) = true := mul_ok ss (small_nat (n := b) (k := 7) (by omega) (by omega))
    have p1 : powOk ((s : Int) * b + a) 2 = true := pow_ok (by omega) (by omega) (by
      have : ((s : Int) * b + a) = ((s * b + a : Nat) : Int) := by simp
      rw [this, Int.natAbs_natCast]; omega)
    have p2 : powOk (b : Int) 2 = true := pow_ok (by omega) (by omega) (by simp; omega)
    simp [runFn, fn__law_plain_square, b__law_plain_square, finFn, evSs, evS, evE, evEs, evB, Post.mv, cv_eqS, str_f1, str_f2, str_f3, str_ne2, str_ne3, m1, p1, p2, num, den]
theorem sp_ahead (n : Nat) (hn : 2 ≤ n) (p : Post) (hp : p.Ok) (c s o m : Nat) (hc : c ≤ 10 ^ 6) (ho : o ≤ 10 ^ 6) (hs : s ≤ 1000) (hm : m ≤ 1000) (h : MH) :
    callK none T n 88 [p.mv, .int c, .int s, .int o, .int m] h = .ok (.bl (decide (0 < qs p c s o m))) h := by
  rw [call_at T__law_ahead (by omega)]
  have q1 := sp_plain_square (n - 1) (by omega) p hp s hs h
  have q2 := sp_plain_square (n - 1) (by omega) p hp m hm h
  obtain ⟨l1, l2⟩ := num_lt hp hs
  obtain ⟨l3, l4⟩ := num_lt hp hm
  have cc : c * c < 2 ^ 40 := by
    have : c * c ≤ 10 ^ 6 * 10 ^ 6 := Nat.mul_le_mul hc hc
    exact Nat.lt_of_le_of_lt this (by decide)
  have oo : o * o < 2 ^ 40 := by
    have : o * o ≤ 10 ^ 6 * 10 ^ 6 := Nat.mul_le_mul ho ho
    exact Nat.lt_of_le_of_lt this (by decide)
  have eq : decide (0 < qs p c s o m) = decide ((o : Int) * o * (num p s : Int) * (den p m : Int) < (c : Int) * c * (num p m : Int) * (den p s : Int)) := by
    unfold qs
    rw [decide_eq_decide, sg_pos]
    have e1 : (o : Int) * o * (num p s : Int) * (den p m : Int) = ((o * o * num p s * den p m : Nat) : Int) := by simp
    have e2 : (c : Int) * c * (num p m : Int) * (den p s : Int) = ((c * c * num p m * den p s : Nat) : Int) := by simp
    rw [e1, e2, Int.ofNat_lt]
    have e3 : o ^ 2 * den p m * num p s = o * o * num p s * den p m := by grind
    have e4 : c ^ 2 * den p s * num p m = c * c * num p m * den p s := by grind
    rw [e3, e4]
  rw [eq]
  generalize num p s = ns at *
  generalize num p m = nm at *
  generalize den p s = ds at *
  generalize den p m = dm at *
  have sc : Sm (c : Int) := small_nat (k := 20) (by omega) (by omega)
  have so : Sm (o : Int) := small_nat (k := 20) (by omega) (by omega)
  have m1 : mulOk (c : Int) (c : Int) = true := mul_ok sc sc
  have m2 : mulOk (o : Int) (o : Int) = true := mul_ok so so
  have m3 : mulOk ((c : Int) * c) (nm : Int) = true := mul_ok (small_nat (n := c * c) cc (by omega)) (small_nat l3 (by omega))
  have m4 : mulOk ((o : Int) * o) (ns : Int) = true := mul_ok (small_nat (n := o * o) oo (by omega)) (small_nat l1 (by omega))
  have m5 : mulOk ((c : Int) * c * nm) (ds : Int) = true := mul_ok (small_nat (n := c * c * nm) (mul_lt_pow cc l3) (by omega)) (small_nat l2 (by omega))
  have m6 : mulOk ((o : Int) * o * ns) (dm : Int) = true := mul_ok (small_nat (n := o * o * ns) (mul_lt_pow oo l1) (by omega)) (small_nat l4 (by omega))
  simp [runFn, fn__law_ahead, b__law_ahead, finFn, evSs, evS, evE, evEs, evT, evTs, q1, q2, m1, m2, m3, m4, m5, m6]
def ableL (cl hi row : List Nat) : List Nat := (List.range cl.length).filter fun i => decide (0 < at0 cl i) && decide (at0 row i < at0 hi i)
def aheadL (p : Post) (cl row able : List Nat) (i : Nat) : List Nat := able.filter fun o => decide (0 < qs p (at0 cl o) (at0 row o) (at0 cl i) (at0 row i))
def bestL (p : Post) (cl row able : List Nat) : List Nat := able.filter fun i => (aheadL p cl row able i).isEmpty
def nextL (p : Post) (cl hi row : List Nat) : List (List Nat) := (bestL p cl row (ableL cl hi row)).map (bump row)
def rawL (p : Post) (cl hi : List Nat) (rows : List (List Nat)) : List (List Nat) := rows.flatMap (nextL p cl hi)
def turnL (p : Post) (cl hi : List Nat) (rows : List (List Nat)) : List (List Nat) := sortN (nubN (rawL p cl hi rows))
def grownL (p : Post) (cl hi : List Nat) : Nat → List (List Nat) → List (List Nat)
  | 0, rows => rows
  | k + 1, rows => turnL p cl hi (grownL p cl hi k rows)
/-- the state ahead of a turn -/
def mkA (p : Post) (cl lo hi : List Nat) (house : Nat) (rows : List (List Nat)) (x6 x7 x8 x9 x10 : Option MV) : MEnv := [some (.tup (cl.map natM)), some p.mv, some (.int (house : Int)), some (.lst (lo.map natM)), some (.lst (hi.map natM)), some (.lst (rows.map rowM)), x6, x7, x8, x9, x10, none, none]
structure RowA (p : Post) (cl hi row : List Nat) : Prop where
  post : p.Ok
  lr : row.length = cl.length
  lh : hi.length = cl.length
  cle : ∀ c ∈ cl, c ≤ 10 ^ 6
  rle : ∀ s ∈ row, s ≤ 999
  few : cl.length ≤ 1000
variable {lo hi row : List Nat} {house : Nat} {rows : List (List Nat)}
theorem able_comp (G : MM.Callee) (V : RowA p cl hi row) (x6 x7 x9 x10 : Option MV) (H : MH) : evF G c0__law_grown (mkA p cl lo hi house rows x6 x7 (some (rowM row)) x9 x10) H = .ok ((ableL cl hi row).map natM) H := by
  have c := comp_map (G := G) (own := [10, 11]) (tg := .tup (.cons (.nm 10) (.cons (.nm 11) .nil))) (it := .enum (.var 0)) (c := .all (.cons (.val (.cmp .gt (.var 11) (.int 0))) (.cons (.val (.cmp .lt (.ix (.var 8) (.var 10)) (.ix (.var 4) (.var 10)))) .nil))) (elt := .var 10) (e := mkA p cl lo hi house rows x6 x7 (some (rowM row)) x9 x10) (h := H)
    (List.range cl.length) (fun (i : Nat) => MV.tup [.int (i : Int), natM (at0 cl i)]) (fun i => decide (0 < at0 cl i) && decide (at0 row i < at0 hi i)) natM
    (by simp [evI, evE, mkA, enumN]) (fun i hi' => by
      have hi' := List.mem_range.mp hi'
      have a1 := at_row (row := row) (show i < row.length by rw [V.lr]; exact hi')
      have a2 := at_row (row := hi) (show i < hi.length by rw [V.lh]; exact hi')
      refine ⟨_, rfl, ?_, fun _ => by simp [evE, mkA, wipeM, natM]⟩
      by_cases k1 : 0 < at0 cl i <;> by_cases k2 : at0 row i < at0 hi i <;> simp [evB, evAll, evE, mkA, wipeM, natM, rowM, a1, a2, k1, k2]) (by simp; have := V.few; omega)
  exact c
theorem ahead_comp (hn : 3 ≤ n) (V : RowA p cl hi row) (able : List Nat) (hab : ∀ i ∈ able, i < cl.length) (hal : able.length ≤ 1000) (i : Nat) (hi' : i < cl.length) (x6 x7 : Option MV) (H : MH) : evF (callK none T (n - 1)) c1__law_grown (mkA p cl lo hi house rows x6 x7 (some (rowM row)) (some (.lst (able.map natM))) (some (natM i))) H = .ok ((aheadL p cl row able i).map fun _ => natM 1) H := by
  have c := comp_map (G := callK none T (n - 1)) (own := [12]) (tg := .nm 12) (it := .seq (.var 9)) (c := .val (.call 88 (.cons (.var 1) (.cons (.ix (.var 0) (.var 12)) (.cons (.ix (.var 8) (.var 12)) (.cons (.ix (.var 0) (.var 10)) (.cons (.ix (.var 8) (.var 10)) .nil))))))) (elt := .int 1) (e := mkA p cl lo hi house rows x6 x7 (some (rowM row)) (some (.lst (able.map natM))) (some (natM i))) (h := H)
    able natM (fun o => decide (0 < qs p (at0 cl o) (at0 row o) (at0 cl i) (at0 row i))) (fun _ => natM 1)
    (by simp [evI, evE, mkA]) (fun o ho => by
      have ho := hab o ho
      have a1 := at_row (row := row) (show i < row.length by rw [V.lr]; exact hi')
      have a2 := at_row (row := row) (show o < row.length by rw [V.lr]; exact ho)
      have a3 := at_row (row := cl) hi'
      have a4 := at_row (row := cl) ho
      have r1 : at0 row i ≤ 999 := V.rle _ (mem_getD 0 (by rw [V.lr]; exact hi'))
      have r2 : at0 row o ≤ 999 := V.rle _ (mem_getD 0 (by rw [V.lr]; exact ho))
      have sp := sp_ahead (n - 1) (by omega) p V.post (at0 cl o) (at0 row o) (at0 cl i) (at0 row i) (V.cle _ (mem_getD 0 ho)) (V.cle _ (mem_getD 0 hi')) (by omega) (by omega) H
      refine ⟨_, rfl, ?_, fun _ => by simp [evE, mkA, wipeM, natM]⟩
      simp [evB, evE, evEs, mkA, wipeM, natM, rowM, a1, a2, a3, a4, sp]) (by omega)
  exact c
theorem bump_M (row : List Nat) (i : Nat) (hi : i < row.length) : (row.map natM).take i ++ .int ((at0 row i : Nat) + 1 : Int) :: (row.map natM).drop (i + 1) = (bump row i).map natM := by
  have := set_cut row i (at0 row i + 1) hi
  unfold bump
  rw [← this]
  simp [natM]
theorem l0_turn (hn : 3 ≤ n) (V : RowA p cl hi row) (able : List Nat) (hab : ∀ i ∈ able, i < cl.length) (hal : able.length ≤ 1000) (i : Nat) (hi' : i < cl.length) (x6 : Option MV) (H : MH) (acc : List (List Nat)) (hacc : acc.length ≤ 1000000) :
    evSs none (callK none T (n - 1)) b0__law_grown (mkA p cl lo hi house rows x6 (some (.ref H.length)) (some (rowM row)) (some (.lst (able.map natM))) (some (natM i))) (H ++ [.lst (acc.map rowM)]) =
      .ok (.nx, mkA p cl lo hi house rows x6 (some (.ref H.length)) (some (rowM row)) (some (.lst (able.map natM))) (some (natM i))) (H ++ [.lst ((acc ++ if (aheadL p cl row able i).isEmpty then [bump row i] else []).map rowM)]) := by
  have c := ahead_comp (lo := lo) (house := house) (rows := rows) hn V able hab hal i hi' x6 (some (.ref H.length)) (H ++ [.lst (acc.map rowM)])
  have a1 := at_row (row := row) (show i < row.length by rw [V.lr]; exact hi')
  have lt : ((row.map natM).take i).length = i := by simp; have := V.lr; omega
  have ld : ((row.map natM).drop (i + 1)).length = row.length - (i + 1) := by simp
  have few := V.few
  have lr := V.lr
  have k1 : lenOk (i + 1) = true := len_ok (by omega)
  have k2 : lenOk (i + 1 + (row.length - (i + 1))) = true := len_ok (by omega)
  have mi : min i row.length = i := by omega
  have bm := bump_M row i (by rw [V.lr]; exact hi')
  have ap : appendV (.ref H.length) (.tup ((bump row i).map natM)) (H ++ [.lst (acc.map rowM)]) = .ok .non (H ++ [.lst (acc.map rowM ++ [.tup ((bump row i).map natM)])]) := by
    have f : flt (.tup ((bump row i).map natM)) = true := flt_nats _
    have l : lenOk acc.length = true := len_ok (by omega)
    simp [appendV, f, l]
  have dr : derf (H ++ [.lst (acc.map rowM)]) (.ref H.length) = .lst (acc.map rowM) := by simp [derf]
  cases q : aheadL p cl row able i with
  | nil =>
    rw [q] at c
    unfold mkA at c ⊢
    unfold rowM at c ap dr ⊢
    simp only [natM, List.map_nil] at c
    simp [b0__law_grown, evSs, evS, evB, evE, evF, evEs, evO, evT, c, cv_eq, shp, shpL, eqv, eqvL, natM, a1, dr, ap, cut_to, cut_from1, bm, k1, k2, mi]
  | cons z zs =>
    rw [q] at c
    have s0 := shp_nats 58 (zs.map fun _ => 1)
    unfold mkA at c ⊢
    unfold rowM at c ap dr ⊢
    rw [List.map_map] at s0
    have s1 : shpL 59 (zs.map fun _ => natM 1) = true := s0
    simp [natM] at c s1
    simp [b0__law_grown, evSs, evS, evB, evE, evF, evEs, c, cv_eq, shp, shpL, eqv, eqvL, natM, s1]
theorem take_succ_get {α : Type} {l : List α} {k : Nat} {x : α} (h : l[k]? = some x) : l.take (k + 1) = l.take k ++ [x] := by
  rw [List.take_succ, h]; rfl
theorem l0_loop (hn : 3 ≤ n) (V : RowA p cl hi row) (able : List Nat) (hab : ∀ i ∈ able, i < cl.length) (hal : able.length ≤ 1000) (x6 x10 : Option MV) (H : MH) (acc : List (List Nat)) (hacc : acc.length ≤ 900000) :
    ∃ y10, evS none (callK none T (n - 1)) l0__law_grown (mkA p cl lo hi house rows x6 (some (.ref H.length)) (some (rowM row)) (some (.lst (able.map natM))) x10) (H ++ [.lst (acc.map rowM)]) =
      .ok (.nx, mkA p cl lo hi house rows x6 (some (.ref H.length)) (some (rowM row)) (some (.lst (able.map natM))) y10) (H ++ [.lst ((acc ++ (bestL p cl row able).map (bump row)).map rowM)]) := by
  obtain ⟨e2, h2, q1, y10, q2, q3⟩ := for_inv (L := none) (G := callK none T (n - 1)) (t := .nm 10) (it := .seq (.var 9)) (b := b0__law_grown) (e := mkA p cl lo hi house rows x6 (some (.ref H.length)) (some (rowM row)) (some (.lst (able.map natM))) x10) (h := H ++ [.lst (acc.map rowM)]) able natM
    (fun k e h => ∃ y10, e = mkA p cl lo hi house rows x6 (some (.ref H.length)) (some (rowM row)) (some (.lst (able.map natM))) y10 ∧ h = H ++ [.lst ((acc ++ ((able.take k).filter fun i => (aheadL p cl row able i).isEmpty).map (bump row)).map rowM)]) (by simp [evI, evE, mkA])
    ⟨x10, rfl, by simp⟩ (fun k i e h hx ⟨y10, he, hH⟩ => by
      have hi' := hab i (List.mem_of_getElem? hx)
      have hl : (((able.take k).filter fun i => (aheadL p cl row able i).isEmpty).map (bump row)).length ≤ 1000 := by
        rw [List.length_map]
        exact Nat.le_trans (List.length_filter_le _ _) (by rw [List.length_take]; omega)
      have t := l0_turn (lo := lo) (house := house) (rows := rows) hn V able hab hal i hi' x6 H (acc ++ ((able.take k).filter fun i => (aheadL p cl row able i).isEmpty).map (bump row)) (by rw [List.length_append]; omega)
      subst he
      subst hH
      refine ⟨_, _, _, rfl, t, some (natM i), rfl, ?_⟩
      rw [take_succ_get hx, List.filter_append, List.map_append]
      cases q : (aheadL p cl row able i).isEmpty <;> simp [q])
  rw [List.take_length] at q3
  subst q2
  subst q3
  exact ⟨y10, q1⟩
theorem ableL_lt {i : Nat} (h : i ∈ ableL cl hi row) : i < cl.length := List.mem_range.mp (List.mem_filter.mp h).1
theorem l1_loop (hn : 3 ≤ n) (hV : ∀ row ∈ rows, RowA p cl hi row) (hr : rows.length ≤ 500) (hfew : cl.length ≤ 1000) (x6 x8 x9 x10 : Option MV) (H : MH) :
    ∃ y8 y9 y10, evS none (callK none T (n - 1)) l1__law_grown (mkA p cl lo hi house rows x6 (some (.ref H.length)) x8 x9 x10) (H ++ [.lst []]) =
      .ok (.nx, mkA p cl lo hi house rows x6 (some (.ref H.length)) y8 y9 y10) (H ++ [.lst ((rawL p cl hi rows).map rowM)]) := by
  obtain ⟨e2, h2, q1, y8, y9, y10, q2, q3⟩ := for_inv (L := none) (G := callK none T (n - 1)) (t := .nm 8) (it := .seq (.var 5)) (b := b1__law_grown) (e := mkA p cl lo hi house rows x6 (some (.ref H.length)) x8 x9 x10) (h := H ++ [.lst []]) rows rowM
    (fun k e h => ∃ y8 y9 y10, e = mkA p cl lo hi house rows x6 (some (.ref H.length)) y8 y9 y10 ∧ h = H ++ [.lst ((rawL p cl hi (rows.take k)).map rowM)]) (by simp [evI, evE, mkA])
    ⟨x8, x9, x10, rfl, by simp [rawL]⟩ (fun k row e h hx ⟨y8, y9, y10, he, hH⟩ => by
      have V := hV row (List.mem_of_getElem? hx)
      have hk : k < rows.length := by
        rcases Nat.lt_or_ge k rows.length with c | c
        · exact c
        · rw [List.getElem?_eq_none c] at hx; cases hx
      have hal : (ableL cl hi row).length ≤ 1000 := Nat.le_trans (List.length_filter_le _ _) (by simp; exact hfew)
      have hlen : ∀ l : List (List Nat), (rawL p cl hi l).length ≤ l.length * 1000 := fun l => by
        induction l with
        | nil => simp [rawL]
        | cons a l ih =>
          have : (nextL p cl hi a).length ≤ 1000 := by
            unfold nextL bestL
            rw [List.length_map]
            refine Nat.le_trans (List.length_filter_le _ _) (Nat.le_trans (List.length_filter_le _ _) (by simp; exact hfew))
          unfold rawL at ih ⊢
          rw [List.flatMap_cons, List.length_append, List.length_cons]
          omega
      have hacc : (rawL p cl hi (rows.take k)).length ≤ 900000 := Nat.le_trans (hlen _) (by rw [List.length_take]; omega)
      subst he
      subst hH
      have ca := able_comp (lo := lo) (house := house) (rows := rows) (callK none T (n - 1)) V x6 (some (.ref H.length)) y9 y10 (H ++ [.lst ((rawL p cl hi (rows.take k)).map rowM)])
      obtain ⟨z10, lp⟩ := l0_loop (lo := lo) (house := house) (rows := rows) hn V (ableL cl hi row) (fun i hi => ableL_lt hi) hal x6 y10 H (rawL p cl hi (rows.take k)) hacc
      refine ⟨_, _, _, rfl, ?_, some (rowM row), some (.lst ((ableL cl hi row).map natM)), z10, rfl, rfl⟩
      have e1 : rawL p cl hi (rows.take (k + 1)) = rawL p cl hi (rows.take k) ++ nextL p cl hi row := by
        rw [take_succ_get hx]
        unfold rawL
        rw [List.flatMap_append, List.flatMap_cons, List.flatMap_nil, List.append_nil]
      rw [e1]
      unfold nextL
      unfold mkA at ca lp ⊢
      simp [b1__law_grown, evSs, evS, evE, evT, ca, lp])
  rw [List.take_length] at q3
  subst q2
  subst q3
  exact ⟨y8, y9, y10, q1⟩
end
end G
set_option Elab.async false
set_option linter.all false
set_option maxRecDepth 100000
/-! S11: the law's own rows by quotients, put together. -/
namespace G
open PySem MM
theorem rowI_inj : ∀ {a b : List Nat}, rowI a = rowI b → a = b
  | [], [], _ => rfl
  | [], _ :: _, h => by cases h
  | _ :: _, [], h => by cases h
  | x :: a, y :: b, h => by
    have h : ((x : Int) :: rowI a) = ((y : Int) :: rowI b) := h
    obtain ⟨h1, h2⟩ := List.cons.inj h
    rw [rowI_inj h2, Int.ofNat_inj.mp h1]
theorem memT_cast (x : List Nat) : ∀ l : List (List Nat), memT (rowI x) (l.map rowI) = decide (x ∈ l)
  | [] => by simp [memT]
  | y :: l => by
    rw [List.map_cons, memT, memT_cast x l]
    by_cases c : x = y
    · subst c; simp
    · have : ¬ rowI x = rowI y := fun e => c (rowI_inj e)
      simp [c, this]
theorem nubT_cast : ∀ l : List (List Nat), nubT (l.map rowI) = (nubN l).map rowI
  | [] => rfl
  | x :: l => by
    rw [List.map_cons, nubT, nubN, memT_cast, nubT_cast l]
    by_cases c : x ∈ l
    · rw [decide_eq_true c, if_pos rfl, if_pos c]
    · rw [decide_eq_false c, if_neg Bool.false_ne_true, if_neg c]; rfl
theorem evenT_cast (d : Nat) : ∀ l : List (List Nat), (∀ r ∈ l, r.length = d) → evenT d (l.map rowI) = true
  | [], _ => rfl
  | x :: l, h => by
    rw [List.map_cons, evenT, evenT_cast d l fun r hr => h r (List.mem_cons_of_mem _ hr)]
    have h1 := h x List.mem_cons_self
    have h2 : (rowI x).length = d := by unfold rowI; rw [List.length_map]; exact h1
    have h3 : (rowI x).all (fun i => decide (0 ≤ i)) = true := by
      rw [List.all_eq_true]
      intro i hi
      unfold rowI at hi
      obtain ⟨k, _, rfl⟩ := List.mem_map.mp hi
      exact decide_eq_true (by omega)
    rw [h2, h3]
    simp
theorem sortSetV_rows (l : List (List Nat)) (d : Nat) (hd : 0 < d) (h : ∀ r ∈ l, r.length = d) (hl : l.length < 64) : sortSetV (l.map rowM) = some ((sortN (nubN l)).map rowM) := by
  have ne : ∀ r ∈ l, r ≠ [] := fun r hr e => by have := h r hr; rw [e] at this; simp at this; omega
  unfold sortSetV
  rw [tupsOf_rows l ne]
  cases l with
  | nil => rfl
  | cons x l =>
    have e1 := evenT_cast d (x :: l) h
    have e2 : (rowI x).length = d := by unfold rowI; rw [List.length_map]; exact h x List.mem_cons_self
    have e3 : Nat.blt ((l.map rowI).length + 1) 64 = true := by
      rw [List.length_map]
      have : l.length + 1 < 64 := hl
      exact Nat.ble_eq_true_of_le this
    show (if Nat.blt ((l.map rowI).length + 1) 64 && evenT (rowI x).length ((x :: l).map rowI) then some ((sortT (nubT ((x :: l).map rowI))).map tupM) else none) = _
    rw [e2, e3, e1, nubT_cast, sortT_cast, List.map_map]
    show some _ = some _
    congr 1
    exact List.map_congr_left fun r _ => (rowM_I r).symm
section
variable {n : Nat} {p : Post} {cl : List Nat} {h : MH} {lo hi row : List Nat} {house : Nat} {rows : List (List Nat)}
theorem raw_len {r : List Nat} (h : r ∈ rawL p cl hi rows) : ∃ s ∈ rows, r.length = s.length := by
  obtain ⟨s, h1, h2⟩ := List.mem_flatMap.mp h
  obtain ⟨i, _, rfl⟩ := List.mem_map.mp h2
  exact ⟨s, h1, len_bump s i⟩
theorem grown_turn (hn : 3 ≤ n) (hV : ∀ row ∈ rows, RowA p cl hi row) (h0 : 0 < cl.length) (hr : rows.length ≤ 500) (h64 : (rawL p cl hi rows).length < 64) (hfew : cl.length ≤ 1000) (x6 x7 x8 x9 x10 : Option MV) (H : MH) :
    ∃ y7 y8 y9 y10 c, evSs none (callK none T (n - 1)) b2__law_grown (mkA p cl lo hi house rows x6 x7 x8 x9 x10) H = .ok (.nx, mkA p cl lo hi house (turnL p cl hi rows) x6 y7 y8 y9 y10) (H ++ [c]) := by
  obtain ⟨y8, y9, y10, lp⟩ := l1_loop (lo := lo) (house := house) hn hV hr hfew x6 x8 x9 x10 H
  have ss := sortSetV_rows (rawL p cl hi rows) cl.length h0 (fun r hr => by
    obtain ⟨s, h1, h2⟩ := raw_len hr
    rw [h2]; exact (hV s h1).lr) h64
  refine ⟨some (.ref H.length), y8, y9, y10, .lst ((rawL p cl hi rows).map rowM), ?_⟩
  have dr : derf (H ++ [.lst ((rawL p cl hi rows).map rowM)]) (.ref H.length) = .lst ((rawL p cl hi rows).map rowM) := by simp [derf]
  unfold turnL
  unfold mkA at lp ⊢
  simp [b2__law_grown, evSs, evS, evE, evF, evEs, evT, fltL, lp, lstOf, dr, ss]
theorem grown_loop (hn : 3 ≤ n) (h0 : 0 < cl.length) (hfew : cl.length ≤ 1000) (k : Nat) (hk : k ≤ 1000000) (hok : ∀ t, t < k → (∀ row ∈ grownL p cl hi t rows, RowA p cl hi row) ∧ (grownL p cl hi t rows).length ≤ 500 ∧ (rawL p cl hi (grownL p cl hi t rows)).length < 64) (x6 x7 x8 x9 x10 : Option MV) (hsum : house - lo.sum = k) (hle : lo.sum ≤ house) :
    ∃ y6 y7 y8 y9 y10 R, evS none (callK none T (n - 1)) l2__law_grown (mkA p cl lo hi house rows x6 x7 x8 x9 x10) h = .ok (.nx, mkA p cl lo hi house (grownL p cl hi k rows) y6 y7 y8 y9 y10) (h ++ R) := by
  have ev : evI (callK none T (n - 1)) (.range1 (.bin .sub (.var 2) (.bi .sum (.cons (.var 3) .nil)))) (mkA p cl lo hi house rows x6 x7 x8 x9 x10) h = .ok ⟨(List.range k).map fun (i : Nat) => MV.int ((0 : Int) + (i : Int)), none⟩ h := by
    refine r1_ev _ _ _ _ _ k ?_ hk
    have e : (house : Int) - ((lo.sum : Nat) : Int) = (k : Int) := by omega
    have e2 := natM_cast lo
    simp [evE, evEs, mkA]
    rw [e2, bi_sum_l, sum_nat]
    simp [e]
  obtain ⟨e2, h2, q1, y6, y7, y8, y9, y10, R, q2, q3⟩ := for_inv (L := none) (G := callK none T (n - 1)) (t := .nm 6) (it := .range1 (.bin .sub (.var 2) (.bi .sum (.cons (.var 3) .nil)))) (b := b2__law_grown) (e := mkA p cl lo hi house rows x6 x7 x8 x9 x10) (h := h) (List.range k) (fun (i : Nat) => MV.int ((0 : Int) + (i : Int)))
    (fun t e H => ∃ y6 y7 y8 y9 y10 R, e = mkA p cl lo hi house (grownL p cl hi t rows) y6 y7 y8 y9 y10 ∧ H = h ++ R) ev
    ⟨x6, x7, x8, x9, x10, [], rfl, by simp⟩ (fun t x e H hx ⟨y6, y7, y8, y9, y10, R, he, hH⟩ => by
      obtain ⟨rfl, ht⟩ := range_get hx
      obtain ⟨o1, o2, o3⟩ := hok x ht
      subst he
      subst hH
      obtain ⟨z7, z8, z9, z10, c, g⟩ := grown_turn (lo := lo) (house := house) hn o1 h0 o2 o3 hfew (some (MV.int ((0 : Int) + (x : Int)))) y7 y8 y9 y10 (h ++ R)
      exact ⟨_, _, _, rfl, g, _, z7, z8, z9, z10, R ++ [c], rfl, by simp⟩)
  rw [List.length_range] at q2
  subst q2
  subst q3
  exact ⟨y6, y7, y8, y9, y10, R, q1⟩
/-- what the law's own rows are -/
def lawGrown (p : Post) (cl lo hi : List Nat) (house : Nat) : List (List Nat) := grownL p cl hi (house - lo.sum) [lo]
theorem sp_law_grown (hn : 3 ≤ n) (h0 : 0 < cl.length) (hfew : cl.length ≤ 1000) (c : lo.sum ≤ house) (hh : house ≤ 1000000) (hok : ∀ t, t < house - lo.sum → (∀ row ∈ grownL p cl hi t [lo], RowA p cl hi row) ∧ (grownL p cl hi t [lo]).length ≤ 500 ∧ (rawL p cl hi (grownL p cl hi t [lo])).length < 64) :
    callK none T n 89 [.tup (cl.map natM), p.mv, .int (house : Int), .lst (lo.map natM), .lst (hi.map natM)] h = .ok (.lst ((lawGrown p cl lo hi house).map rowM)) h := by
  rw [call_at T__law_grown (by omega)]
  have sm : biV .sum [.lst (lo.map natM)] h = .ok (.int ((lo.sum : Nat) : Int)) h := by rw [natM_cast, bi_sum_l, sum_nat]
  obtain ⟨y6, y7, y8, y9, y10, R, lp⟩ := grown_loop (n := n) (p := p) (h := h) (lo := lo) (hi := hi) (rows := [lo]) (house := house) hn h0 hfew (house - lo.sum) (by omega) hok none none none none none rfl c
  have t2 := thk_rows h.length (h ++ R) (grownL p cl hi (house - lo.sum) [lo])
  have t3 := thaw_rows h.length (h ++ R) (grownL p cl hi (house - lo.sum) [lo])
  unfold lawGrown
  generalize grownL p cl hi (house - lo.sum) [lo] = X at *
  unfold mkA at lp
  simp only [List.map_cons, List.map_nil, rowM] at lp
  simp [runFn, fn__law_grown, b__law_grown, finFn, evSs, evS, evE, evEs, evB, evF, evT, sm, c, lp, thk, thaw, t2, t3]
end
end G
set_option Elab.async false
set_option linter.all false
set_option maxRecDepth 100000
/-! Q5: the law's own rows by quotients are the right rows; few at a turn. -/
namespace G
open PySem MM
theorem sub_len : ∀ (l m : List Nat), l.Nodup → (∀ x ∈ l, x ∈ m) → l.length ≤ m.length
  | [], _, _, _ => Nat.zero_le _
  | a :: l, m, hn, hs => by
    obtain ⟨h1, h2⟩ := List.nodup_cons.mp hn
    have ha := hs a List.mem_cons_self
    have ih := sub_len l (m.erase a) h2 fun x hx => by
      have := hs x (List.mem_cons_of_mem _ hx)
      exact (List.mem_erase_of_ne (show ¬ x = a from fun e => h1 (e ▸ hx))).mpr this
    rw [List.length_erase_of_mem ha] at ih
    have : 0 < m.length := List.length_pos_of_mem ha
    rw [List.length_cons]
    omega
section
variable {act : Nat → Bool} {gt : Nat → Nat → Nat → Nat → Prop} {n : Nat} {lo hi : Nat → Nat}
/-- what stands for rows_mem -/
structure Split (act : Nat → Bool) (gt : Nat → Nat → Nat → Nat → Prop) (n : Nat) (lo hi : Nat → Nat) (row : List Nat) (l : Nat) (ps base : List Nat) (m : Nat) : Prop where
  R : Right act gt n lo hi row
  V : Last act gt n lo row l
  hps : ∀ i, i ∈ ps ↔ i < n ∧ (IsG act gt lo row l i ∨ IsL act gt lo hi row l i)
  hbl : base.length = n
  hbg : ∀ i, i < n → IsG act gt lo row l i → at0 base i = at0 row i - 1
  hbn : ∀ i, i < n → ¬ IsG act gt lo row l i → at0 base i = at0 row i
  hbs : base.sum + m = row.sum
  nd : ps.Nodup
theorem top_few (K : KOrd act gt) {row : List Nat} {l : Nat} {ps base : List Nat} {m : Nat} (S : Split act gt n lo hi row l ps base m) {r : List Nat} (h : Some1 base ps m r) (hm : m < ps.length) (best : List Nat) (hbn : best.Nodup) (hb : ∀ i ∈ best, Next act gt n hi r i) : best.length + m ≤ ps.length := by
  obtain ⟨R, V, hps, hbl, hbg, hbn', hbs, nd⟩ := S
  have rl : r.length = n := by rw [h.len, hbl]
  have hG : ∀ i, i < n → IsG act gt lo row l i → at0 row i - 1 ≤ at0 r i ∧ at0 r i ≤ at0 row i := fun i hi g => by
    have m := (hps i).mpr ⟨hi, .inl g⟩
    have h1 := h.ge i m
    have h2 := h.le i m
    rw [hbg i hi g] at h1 h2
    have := g.2.1
    omega
  have hL : ∀ i, i < n → IsL act gt lo hi row l i → at0 row i ≤ at0 r i ∧ at0 r i ≤ at0 row i + 1 := fun i hi g => by
    have m := (hps i).mpr ⟨hi, .inr g⟩
    have h1 := h.ge i m
    have h2 := h.le i m
    rw [hbn' i hi g.1] at h1 h2
    omega
  have hN : ∀ i, i < n → ¬ IsG act gt lo row l i → ¬ IsL act gt lo hi row l i → at0 r i = at0 row i := fun i hi g k => by
    rw [h.out i fun q => ((hps i).mp q).2.elim g k, hbn' i hi g]
  have f2 : ∀ j, j < n → act j = true → at0 r j < hi j → ¬ gt j (at0 r j) l (at0 row l - 1) := fun j hj aj bj => by
    rcases Classical.em (IsG act gt lo row l j) with g | g
    · have := hG j hj g
      exact K.ntr _ _ _ _ _ _ aj aj V.on (K.mono j (at0 row j - 1) _ aj (by omega)) g.2.2.1
    · rcases Classical.em (IsL act gt lo hi row l j) with q | q
      · have := hL j hj q
        exact K.ntr _ _ _ _ _ _ aj aj V.on (K.mono j (at0 row j) _ aj (by omega)) q.2.2.2.1
      · have e := hN j hj g q
        rw [e] at bj ⊢
        exact R.ord l j V.lt hj V.on aj V.got bj
  -- the places that got one more
  have hq : ((List.range n).filter fun i => decide (at0 r i = at0 base i + 1)).length = m := by
    have hlt : ∀ i, i < n → at0 base i ≤ at0 r i ∧ at0 r i ≤ at0 base i + 1 := fun i hi => by
      by_cases c : i ∈ ps
      · exact ⟨h.ge i c, h.le i c⟩
      · rw [h.out i c]; omega
    have e := sum_range_map (fun i => at0 base i) (fun i => if at0 r i = at0 base i + 1 then at0 base i + 1 else at0 base i) (fun i => decide (at0 r i = at0 base i + 1)) (fun i hi => by rw [decide_eq_true_eq] at hi; rw [if_pos hi]) (fun i hi => by rw [decide_eq_false_iff_not] at hi; rw [if_neg hi]) (List.range n)
    have e1 : ((List.range n).map fun i => at0 base i).sum = base.sum := by rw [← hbl]; exact congrArg List.sum (range_at base)
    have e2 : ((List.range n).map fun i => if at0 r i = at0 base i + 1 then at0 base i + 1 else at0 base i).sum = r.sum := by
      have e3 : ((List.range n).map fun i => if at0 r i = at0 base i + 1 then at0 base i + 1 else at0 base i) = (List.range n).map (at0 r) := by
        apply List.map_congr_left
        intro i hi
        have := hlt i (List.mem_range.mp hi)
        show (if at0 r i = at0 base i + 1 then at0 base i + 1 else at0 base i) = at0 r i
        split <;> omega
      rw [e3, ← rl, range_at]
    have := h.sum
    omega
  have hqs : ∀ i ∈ (List.range n).filter fun i => decide (at0 r i = at0 base i + 1), i ∈ ps := fun i hi => by
    have := (List.mem_filter.mp hi).2
    rw [decide_eq_true_eq] at this
    exact Classical.byContradiction fun c => by rw [h.out i c] at this; omega
  -- a place that has one to get
  have ⟨j, j1, j2⟩ : ∃ j, j ∈ ps ∧ at0 r j = at0 base j := Classical.byContradiction fun c => by
    have : ps.length ≤ ((List.range n).filter fun i => decide (at0 r i = at0 base i + 1)).length := sub_len _ _ nd fun x hx => by
      have h1 := h.ge x hx
      have h2 := h.le x hx
      have h3 : ¬ at0 r x = at0 base x := fun e => c ⟨x, hx, e⟩
      exact List.mem_filter.mpr ⟨List.mem_range.mpr ((hps x).mp hx).1, decide_eq_true (by omega)⟩
    omega
  obtain ⟨jn, jg⟩ := (hps j).mp j1
  have jj : act j = true ∧ at0 r j < hi j ∧ ¬ gt l (at0 row l - 1) j (at0 r j) := by
    rcases jg with g | g
    · rw [hbg j jn g] at j2
      have := R.high j jn g.1
      have := g.2.1
      exact ⟨g.1, by omega, by rw [j2]; exact g.2.2.2⟩
    · rw [hbn' j jn g.1] at j2
      exact ⟨g.2.1, by rw [j2]; exact g.2.2.1, by rw [j2]; exact g.2.2.2.2⟩
  have key : ∀ i ∈ best, i ∈ ps ∧ at0 r i = at0 base i := fun i hi' => by
    obtain ⟨b1, b2, b3, b4⟩ := hb i hi'
    have c1 := f2 i b1 b2 b3
    have c2 : ¬ gt l (at0 row l - 1) i (at0 r i) := K.ntr _ _ _ _ _ _ V.on jj.1 b2 jj.2.2 (b4 j jn jj.1 jj.2.1)
    rcases Classical.em (IsG act gt lo row l i) with g | g
    · refine ⟨(hps i).mpr ⟨b1, .inl g⟩, ?_⟩
      have := hG i b1 g
      rw [hbg i b1 g]
      rcases Nat.lt_or_ge (at0 row i - 1) (at0 r i) with q | q
      · exact absurd (K.fall i _ _ b2 q) (K.ntr _ _ _ _ _ _ b2 V.on b2 g.2.2.1 c2)
      · omega
    · rcases Classical.em (IsL act gt lo hi row l i) with q | q
      · refine ⟨(hps i).mpr ⟨b1, .inr q⟩, ?_⟩
        have := hL i b1 q
        rw [hbn' i b1 g]
        rcases Nat.lt_or_ge (at0 row i) (at0 r i) with w | w
        · exact absurd (K.fall i _ _ b2 w) (K.ntr _ _ _ _ _ _ b2 V.on b2 q.2.2.2.1 c2)
        · omega
      · have e := hN i b1 g q
        rw [e] at b3 c1 c2
        exact absurd ⟨g, b2, b3, c1, c2⟩ q
  have := sub_len (best ++ (List.range n).filter fun i => decide (at0 r i = at0 base i + 1)) ps (List.nodup_append.mpr ⟨hbn, List.nodup_range.filter _, fun a ha b hb' e => by
    subst e
    have h1 := (key a ha).2
    have h2 := (List.mem_filter.mp hb').2
    rw [decide_eq_true_eq] at h2
    omega⟩) (fun x hx => by
    rcases List.mem_append.mp hx with h | h
    · exact (key x h).1
    · exact hqs x h)
  rw [List.length_append, hq] at this
  exact this
end
section
variable {p : Post} {cl : List Nat} {bd : List (Nat × Nat)}
theorem his_at {i : Nat} (h : i < bd.length) : at0 (bd.map (·.2)) i = hi0 bd i := by
  show (bd.map (·.2)).getD i 0 = (bd.getD i (0, 0)).2
  rw [List.getD_eq_getElem?_getD, List.getD_eq_getElem?_getD, List.getElem?_map, List.getElem?_eq_getElem h]
  rfl
theorem able_iff (D : Deal p cl bd) {row : List Nat} {i : Nat} : i ∈ ableL cl (bd.map (·.2)) row ↔ i < cl.length ∧ actc cl i = true ∧ at0 row i < hi0 bd i := by
  unfold ableL actc
  rw [List.mem_filter, List.mem_range, Bool.and_eq_true, decide_eq_true_eq, decide_eq_true_eq]
  constructor
  · rintro ⟨h1, h2, h3⟩
    rw [his_at (by rw [D.lb]; exact h1)] at h3
    exact ⟨h1, h2, h3⟩
  · rintro ⟨h1, h2, h3⟩
    exact ⟨h1, h2, by rw [his_at (by rw [D.lb]; exact h1)]; exact h3⟩
theorem best_iff (D : Deal p cl bd) {row : List Nat} {i : Nat} : i ∈ bestL p cl row (ableL cl (bd.map (·.2)) row) ↔ Next (actc cl) (gtq p cl) cl.length (hi0 bd) row i := by
  unfold bestL aheadL
  rw [List.mem_filter, able_iff D, List.isEmpty_iff, List.filter_eq_nil_iff]
  constructor
  · rintro ⟨⟨h1, h2, h3⟩, h4⟩
    refine ⟨h1, h2, h3, fun j hj aj bj => ?_⟩
    have := h4 j ((able_iff D).mpr ⟨hj, aj, bj⟩)
    rw [decide_eq_true_eq] at this
    exact this
  · rintro ⟨h1, h2, h3, h4⟩
    refine ⟨⟨h1, h2, h3⟩, fun j hj => ?_⟩
    obtain ⟨q1, q2, q3⟩ := (able_iff D).mp hj
    rw [decide_eq_true_eq]
    exact h4 j q1 q2 q3
theorem best_nodup {row : List Nat} {hi : List Nat} : (bestL p cl row (ableL cl hi row)).Nodup := (List.nodup_range.filter _).filter _
theorem grown_eq (D : Deal p cl bd) : ∀ t : Nat, grownL p cl (bd.map (·.2)) t [bd.map (·.1)] = rowsIn p cl bd ((bd.map (·.1)).sum + t)
  | 0 => by
    obtain ⟨h1, h2⟩ := rowsIn_spec D ((bd.map (·.1)).sum + 0)
    refine asc_ext _ _ (List.pairwise_singleton _ _) h1 fun r => ?_
    rw [h2 r, grownL, List.mem_singleton]
    constructor
    · intro e; subst e; exact ⟨D.low, rfl⟩
    · rintro ⟨Q, hs⟩
      exact right_base Q (by rw [List.length_map, D.lb]) (fun i h => lows_at (by rw [D.lb]; exact h)) hs
  | t + 1 => by
    obtain ⟨h1, h2⟩ := rowsIn_spec D ((bd.map (·.1)).sum + (t + 1))
    obtain ⟨g1, g2⟩ := rowsIn_spec D ((bd.map (·.1)).sum + t)
    have K := kord D.post cl
    rw [grownL, grown_eq D t]
    unfold turnL
    refine asc_ext _ _ (asc_sortN _ (nub_nodup _)) h1 fun r => ?_
    rw [mem_sortN, mem_nubN, h2 r]
    unfold rawL nextL
    rw [List.mem_flatMap]
    constructor
    · rintro ⟨s, hs, hr⟩
      obtain ⟨i, hi, rfl⟩ := List.mem_map.mp hr
      obtain ⟨R, hsum⟩ := (g2 s).mp hs
      have N := (best_iff D).mp hi
      exact ⟨right_bump K R N, by rw [sum_bump s i (by rw [R.len]; exact N.lt), hsum]; omega⟩
    · rintro ⟨Q, hs⟩
      obtain ⟨s, i, R, N, e⟩ := right_drop K Q (lows := bd.map (·.1)) (by rw [List.length_map, D.lb]) (fun i h => lows_at (by rw [D.lb]; exact h)) (by omega)
      subst e
      refine ⟨s, (g2 s).mpr ⟨R, ?_⟩, List.mem_map.mpr ⟨i, (best_iff D).mpr N, rfl⟩⟩
      rw [sum_bump s i (by rw [R.len]; exact N.lt)] at hs
      omega
theorem flatMap_len {α β : Type} (f : α → List β) (b : Nat) : ∀ l : List α, (∀ x ∈ l, (f x).length ≤ b) → (l.flatMap f).length ≤ l.length * b
  | [], _ => by simp
  | x :: l, h => by
    have ih := flatMap_len f b l fun y hy => h y (List.mem_cons_of_mem _ hy)
    have := h x List.mem_cons_self
    rw [List.flatMap_cons, List.length_append, List.length_cons, Nat.succ_mul]
    omega
theorem ch_small : ∀ k, k ≤ 6 → ∀ m, m < k → ch k m * (k - m) < 64 := by decide
theorem ch_zero : ∀ k m, k < m → ch k m = 0
  | 0, m + 1, _ => rfl
  | k + 1, m + 1, h => by rw [ch, ch_zero k m (by omega), ch_zero k (m + 1) (by omega)]
  | _, 0, h => by omega
theorem ch_self : ∀ k, ch k k = 1
  | 0 => rfl
  | k + 1 => by rw [ch, ch_self k, ch_zero k (k + 1) (by omega)]
theorem ch_le : ∀ k, k ≤ 6 → ∀ m, m ≤ k → ch k m ≤ 20 := by decide
theorem split_of (D : Deal p cl bd) {row : List Nat} (R : RightP p cl bd row) {l : Nat} (q : lastP p cl bd row = some l) :
    Split (actc cl) (gtq p cl) cl.length (lo0 bd) (hi0 bd) row l (sortK (gL p cl bd row l cl.length ++ lL p cl bd row l cl.length)) (baseL row (gL p cl bd row l cl.length)) (gL p cl bd row l cl.length).length := by
  have V := last_last D.post q
  have pl : ∀ i, i ∈ sortK (gL p cl bd row l cl.length ++ lL p cl bd row l cl.length) ↔ i < cl.length ∧ (IsG (actc cl) (gtq p cl) (lo0 bd) row l i ∨ IsL (actc cl) (gtq p cl) (lo0 bd) (hi0 bd) row l i) := fun i => by
    rw [mem_sortK, List.mem_append]
    unfold gL lL
    rw [List.mem_filter, List.mem_filter, List.mem_range, isGb_iff, isLb_iff]
    constructor
    · rintro (h | h)
      · exact ⟨h.1, .inl h.2⟩
      · exact ⟨h.1, .inr h.2⟩
    · rintro ⟨h, g | g⟩
      · exact .inl ⟨h, g⟩
      · exact .inr ⟨h, g⟩
  have bl : (baseL row (gL p cl bd row l cl.length)).length = cl.length := by unfold baseL; simp [R.len]
  have mg : ∀ i, i < cl.length → (i ∈ gL p cl bd row l cl.length ↔ IsG (actc cl) (gtq p cl) (lo0 bd) row l i) := fun i hi => by
    unfold gL
    rw [List.mem_filter, List.mem_range, isGb_iff]
    exact ⟨fun h => h.2, fun h => ⟨hi, h⟩⟩
  have bat : ∀ i, i < cl.length → at0 (baseL row (gL p cl bd row l cl.length)) i = if i ∈ gL p cl bd row l cl.length then at0 row i - 1 else at0 row i := fun i hi => by
    unfold baseL
    exact at_rmap _ _ _ (by rw [R.len]; exact hi)
  have bs : (baseL row (gL p cl bd row l cl.length)).sum + (gL p cl bd row l cl.length).length = row.sum := by
    have e1 : baseL row (gL p cl bd row l cl.length) = (List.range cl.length).map fun i => if isGb p cl bd row l i = true then at0 row i - 1 else at0 row i := by
      unfold baseL
      rw [R.len]
      apply List.map_congr_left
      intro i hi
      have hi := List.mem_range.mp hi
      by_cases c : isGb p cl bd row l i = true
      · rw [if_pos c, if_pos ((mg i hi).mpr (isGb_iff.mp c))]
      · rw [if_neg c, if_neg fun h => c (isGb_iff.mpr ((mg i hi).mp h))]
    have e2 : row.sum = ((List.range cl.length).map (at0 row)).sum := by rw [← R.len, range_at]
    rw [e1, e2]
    unfold gL
    refine sum_range_map _ _ (isGb p cl bd row l) (fun i h => ?_) (fun i h => ?_) _
    · rw [if_pos h]
      have := (isGb_iff.mp h).2.1
      omega
    · rw [if_neg (by rw [h]; exact Bool.false_ne_true)]
  exact ⟨R, V, pl, bl, fun i hi g => by rw [bat i hi, if_pos ((mg i hi).mpr g)], fun i hi g => by rw [bat i hi, if_neg fun h => g ((mg i hi).mp h)], bs, gl_nodup⟩
theorem next_six {hi : List Nat} (h6 : cl.length ≤ 6) (r : List Nat) : (nextL p cl hi r).length ≤ 6 := by
  unfold nextL bestL ableL
  rw [List.length_map]
  exact Nat.le_trans (List.length_filter_le _ _) (Nat.le_trans (List.length_filter_le _ _) (by rw [List.length_range]; exact h6))
theorem next_one {hi : List Nat} (h6 : cl.length ≤ 6) (rows : List (List Nat)) : (rawL p cl hi rows).length ≤ rows.length * 6 := flatMap_len _ _ rows fun x _ => next_six h6 x
theorem rows_few (D : Deal p cl bd) (h6 : cl.length ≤ 6) (house : Nat) : (rowsIn p cl bd house).length ≤ 20 ∧ (rawL p cl (bd.map (·.2)) (rowsIn p cl bd house)).length < 64 := by
  have best6 := next_six (p := p) (hi := bd.map (·.2)) h6
  generalize hhis : bd.map (·.2) = his at *
  unfold rowsIn
  cases q : oneIn p cl bd house with
  | none => exact ⟨Nat.zero_le _, by show 0 < 64; omega⟩
  | some row =>
    obtain ⟨R, hs⟩ := oneIn_some D q
    dsimp only
    unfold rowsOf
    cases ql : lastP p cl bd row with
    | none =>
      refine ⟨by rw [List.length_singleton]; omega, ?_⟩
      dsimp only
      have := next_one (p := p) (hi := his) h6 [row]
      rw [List.length_singleton] at this
      omega
    | some l =>
      have S := split_of D R ql
      have pl := places_len (p := p) (cl := cl) (bd := bd) (row := row) (l := l)
      dsimp only
      generalize sortK (gL p cl bd row l cl.length ++ lL p cl bd row l cl.length) = ps at *
      generalize baseL row (gL p cl bd row l cl.length) = base at *
      generalize (gL p cl bd row l cl.length).length = m at *
      have hlt : ∀ i ∈ ps, i < base.length := fun i hi => by rw [S.hbl]; exact ((S.hps i).mp hi).1
      have hlen : (sortN (wm base ps m)).length = ch ps.length m := by rw [len_sortN, wm_ch]
      have hle : ch ps.length m ≤ 20 := by
        rcases Nat.lt_or_ge ps.length m with c | c
        · rw [ch_zero _ _ c]; omega
        · exact ch_le _ (by omega) _ c
      refine ⟨by rw [hlen]; exact hle, ?_⟩
      rcases Nat.lt_or_ge m ps.length with c | c
      · have := flatMap_len (nextL p cl his) (ps.length - m) (sortN (wm base ps m)) fun r hr => by
          have s1 := (mem_wm ps base m r S.nd hlt).mp ((mem_sortN r _).mp hr)
          have := top_few (kord D.post cl) S s1 c (bestL p cl r (ableL cl his r)) best_nodup (fun i hi => (best_iff D).mp (by rw [hhis]; exact hi))
          unfold nextL
          rw [List.length_map]
          omega
        rw [hlen] at this
        have := ch_small ps.length (by omega) m c
        unfold rawL
        omega
      · have := next_one (p := p) (hi := his) h6 (sortN (wm base ps m))
        rw [hlen] at this
        have e : ch ps.length m ≤ 1 := by
          rcases Nat.lt_or_ge ps.length m with d | d
          · rw [ch_zero _ _ d]; omega
          · rw [show m = ps.length by omega, ch_self]; omega
        omega
end
end G
set_option Elab.async false
set_option linter.all false
set_option maxRecDepth 100000
/-! Q6: levels of right rows in the abstract; rests. -/
namespace G
open PySem MM
theorem sub_len' {α : Type} [DecidableEq α] : ∀ (l m : List α), l.Nodup → (∀ x ∈ l, x ∈ m) → l.length ≤ m.length
  | [], _, _, _ => Nat.zero_le _
  | a :: l, m, hn, hs => by
    obtain ⟨h1, h2⟩ := List.nodup_cons.mp hn
    have ha := hs a List.mem_cons_self
    have ih := sub_len' l (m.erase a) h2 fun x hx => by
      have := hs x (List.mem_cons_of_mem _ hx)
      exact (List.mem_erase_of_ne (show ¬ x = a from fun e => h1 (e ▸ hx))).mpr this
    rw [List.length_erase_of_mem ha] at ih
    have : 0 < m.length := List.length_pos_of_mem ha
    rw [List.length_cons]
    omega
section
variable {act : Nat → Bool} {gt : Nat → Nat → Nat → Nat → Prop} {n : Nat} {lo hi : Nat → Nat}
open Classical in
theorem few_abs (K : KOrd act gt) (h6 : n ≤ 6) (X : List (List Nat)) (hX : X.Nodup) (s : Nat) (hm : ∀ r ∈ X, Right act gt n lo hi r ∧ r.sum = s) (best : List Nat → List Nat) (hbd : ∀ r, (best r).Nodup) (hb : ∀ r ∈ X, ∀ i ∈ best r, Next act gt n hi r i) :
    X.length ≤ 20 ∧ (X.flatMap fun r => (best r).map (bump r)).length < 64 := by
  have six : ∀ r ∈ X, ((best r).map (bump r)).length ≤ 6 := fun r hr => by
    rw [List.length_map]
    have := sub_len (best r) (List.range n) (hbd r) fun i hi => List.mem_range.mpr (hb r hr i hi).lt
    rw [List.length_range] at this
    omega
  have one : X.length ≤ 1 → X.length ≤ 20 ∧ (X.flatMap fun r => (best r).map (bump r)).length < 64 := fun h => by
    have := flatMap_len (fun r => (best r).map (bump r)) 6 X six
    omega
  cases hX2 : X with
  | nil => exact ⟨Nat.zero_le _, by show 0 < 64; omega⟩
  | cons row X' =>
    rw [← hX2]
    have hrow : row ∈ X := by rw [hX2]; exact List.mem_cons_self
    obtain ⟨R, hs⟩ := hm row hrow
    by_cases c : ∃ i, i < n ∧ (act i = true ∧ lo i < at0 row i)
    · obtain ⟨l, l1, ⟨l2, l3⟩, l4⟩ := least_of K (fun i => at0 row i - 1) (fun i => act i = true ∧ lo i < at0 row i) (fun i h => h.1) n c
      have V : Last act gt n lo row l := ⟨l1, l2, l3, fun i hi ai gi => l4 i hi ⟨ai, gi⟩⟩
      have S : Split act gt n lo hi row l ((List.range n).filter fun i => decide (IsG act gt lo row l i ∨ IsL act gt lo hi row l i)) ((List.range n).map fun i => if decide (IsG act gt lo row l i) = true then at0 row i - 1 else at0 row i) ((List.range n).filter fun i => decide (IsG act gt lo row l i)).length := by
        refine ⟨R, V, fun i => ?_, by simp, fun i hi g => ?_, fun i hi g => ?_, ?_, List.nodup_range.filter _⟩
        · rw [List.mem_filter, List.mem_range, decide_eq_true_eq]
        · rw [at_rmap _ _ _ hi, if_pos (decide_eq_true g)]
        · rw [at_rmap _ _ _ hi, if_neg (by rw [decide_eq_true_eq]; exact g)]
        · have e2 : row.sum = ((List.range n).map (at0 row)).sum := by rw [← R.len, range_at]
          rw [e2]
          refine sum_range_map _ _ _ (fun i h => ?_) (fun i h => ?_) _
          · rw [if_pos h]
            rw [decide_eq_true_eq] at h
            have := h.2.1
            omega
          · rw [if_neg (by rw [h]; exact Bool.false_ne_true)]
      have pl : ((List.range n).filter fun i => decide (IsG act gt lo row l i ∨ IsL act gt lo hi row l i)).length ≤ 6 := Nat.le_trans (List.length_filter_le _ _) (by rw [List.length_range]; exact h6)
      generalize ((List.range n).filter fun i => decide (IsG act gt lo row l i ∨ IsL act gt lo hi row l i)) = ps at *
      generalize ((List.range n).map fun i => if decide (IsG act gt lo row l i) = true then at0 row i - 1 else at0 row i) = base at *
      generalize ((List.range n).filter fun i => decide (IsG act gt lo row l i)).length = m at *
      have hlt : ∀ i ∈ ps, i < base.length := fun i hi => by rw [S.hbl]; exact ((S.hps i).mp hi).1
      have s1 : ∀ r ∈ X, Some1 base ps m r := fun r hr => by
        obtain ⟨Q, hq⟩ := hm r hr
        exact (rows_mem K S.R S.V S.hps S.hbl S.hbg S.hbn S.hbs r).mpr ⟨Q, by rw [hq, hs]⟩
      have hlen : X.length ≤ ch ps.length m := by
        have := sub_len' X (wm base ps m) hX fun r hr => (mem_wm ps base m r S.nd hlt).mpr (s1 r hr)
        rw [wm_ch] at this
        exact this
      rcases Nat.lt_or_ge m ps.length with c | c
      · have e1 := ch_le ps.length pl m (by omega)
        have e2 := ch_small ps.length pl m c
        have e3 := flatMap_len (fun r => (best r).map (bump r)) (ps.length - m) X fun r hr => by
          have := top_few K S (s1 r hr) c (best r) (hbd r) (hb r hr)
          rw [List.length_map]
          omega
        have e4 := Nat.mul_le_mul_right (ps.length - m) hlen
        omega
      · apply one
        have e : ch ps.length m ≤ 1 := by
          rcases Nat.lt_or_ge ps.length m with d | d
          · rw [ch_zero _ _ d]; omega
          · rw [show m = ps.length by omega, ch_self]; omega
        omega
    · apply one
      have all : ∀ r ∈ X, r = row := fun r hr => by
        obtain ⟨Q, hq⟩ := hm r hr
        refine same_of_sum (by rw [Q.len, R.len]) (fun i hi => ?_) (by rw [hq, hs])
        rw [Q.len] at hi
        have h1 := Q.low i hi
        cases d : act i with
        | true =>
          have : ¬ lo i < at0 row i := fun e => c ⟨i, hi, d, e⟩
          omega
        | false => rw [R.off i hi d]; exact h1
      have := sub_len' X [row] hX fun r hr => by rw [all r hr]; exact List.mem_cons_self
      exact this
theorem level_abs (K : KOrd act gt) (hb : ∀ i, i < n → act i = true → lo i ≤ hi i) {lows : List Nat} (hl : lows.length = n) (hlo : ∀ i, i < n → at0 lows i = lo i) (step : List (List Nat) → List (List Nat)) (rows : Nat → List (List Nat)) (h0 : rows 0 = [lows]) (hs : ∀ t, rows (t + 1) = step (rows t))
    (hm : ∀ X r, (∀ s ∈ X, Right act gt n lo hi s) → (r ∈ step X ↔ ∃ s ∈ X, ∃ i, Next act gt n hi s i ∧ r = bump s i)) (t : Nat) : ∀ r, r ∈ rows t ↔ Right act gt n lo hi r ∧ r.sum = lows.sum + t := by
  induction t with
  | zero =>
    intro r
    rw [h0, List.mem_singleton]
    constructor
    · intro e; subst e; exact ⟨right_low hl hlo hb, rfl⟩
    · rintro ⟨Q, h⟩
      exact right_base Q hl hlo h
  | succ t ih =>
    intro r
    rw [hs, hm _ _ fun s hs => ((ih s).mp hs).1]
    constructor
    · rintro ⟨s, h1, i, N, rfl⟩
      obtain ⟨R, h2⟩ := (ih s).mp h1
      exact ⟨right_bump K R N, by rw [sum_bump s i (by rw [R.len]; exact N.lt), h2]; omega⟩
    · rintro ⟨Q, h⟩
      obtain ⟨s, i, R, N, e⟩ := right_drop K Q hl hlo (by omega)
      subst e
      rw [sum_bump s i (by rw [R.len]; exact N.lt)] at h
      exact ⟨s, (ih s).mpr ⟨R, by omega⟩, i, N, rfl⟩
end
/-! ### rests -/
def fl0 (cl : List Nat) (h : Nat) (i : Nat) : Nat := at0 cl i * h / cl.sum
def rs0 (cl : List Nat) (h : Nat) (i : Nat) : Nat := at0 cl i * h % cl.sum
def floorsL (cl : List Nat) (h : Nat) : List Nat := cl.map fun c => c * h / cl.sum
def restsL (cl : List Nat) (h : Nat) : List Nat := cl.map fun c => c * h % cl.sum
theorem at_mapN (f : Nat → Nat) (cl : List Nat) (i : Nat) (h : i < cl.length) : at0 (cl.map f) i = f (at0 cl i) := by
  show (cl.map f).getD i 0 = f (cl.getD i 0)
  rw [List.getD_eq_getElem?_getD, List.getD_eq_getElem?_getD, List.getElem?_map, List.getElem?_eq_getElem h]
  rfl
theorem fl_at (cl : List Nat) (h i : Nat) (hi : i < cl.length) : at0 (floorsL cl h) i = fl0 cl h i := at_mapN _ cl i hi
theorem rs_at (cl : List Nat) (h i : Nat) (hi : i < cl.length) : at0 (restsL cl h) i = rs0 cl h i := at_mapN _ cl i hi
theorem fl_rs_sum (T h : Nat) : ∀ l : List Nat, T * (l.map fun c => c * h / T).sum + (l.map fun c => c * h % T).sum = l.sum * h
  | [] => by simp
  | x :: l => by
    have ih := fl_rs_sum T h l
    have := Nat.div_add_mod (x * h) T
    simp only [List.map_cons, List.sum_cons, Nat.mul_add, Nat.add_mul] at ih ⊢
    omega
theorem rs_lt (cl : List Nat) (h : Nat) (hT : 0 < cl.sum) (i : Nat) : rs0 cl h i < cl.sum := Nat.mod_lt _ hT
/-- what the rests come to -/
theorem rests_sum (cl : List Nat) (h : Nat) (hT : 0 < cl.sum) : (floorsL cl h).sum ≤ h ∧ (restsL cl h).sum = cl.sum * (h - (floorsL cl h).sum) := by
  have e := fl_rs_sum cl.sum h cl
  have e : cl.sum * (floorsL cl h).sum + (restsL cl h).sum = cl.sum * h := e
  have h1 : (floorsL cl h).sum ≤ h := Nat.le_of_mul_le_mul_left (by omega) hT
  refine ⟨h1, ?_⟩
  rw [Nat.mul_sub]
  omega
theorem sum_lt_count (T : Nat) : ∀ l : List Nat, (∀ x ∈ l, x < T) → l.sum ≤ T * (l.filter fun x => decide (0 < x)).length ∧ (0 < (l.filter fun x => decide (0 < x)).length → l.sum < T * (l.filter fun x => decide (0 < x)).length)
  | [], _ => by simp
  | x :: l, h => by
    obtain ⟨h1, h2⟩ := sum_lt_count T l fun y hy => h y (List.mem_cons_of_mem _ hy)
    have hx := h x List.mem_cons_self
    by_cases c : 0 < x
    · have : ((x :: l).filter fun x => decide (0 < x)).length = (l.filter fun x => decide (0 < x)).length + 1 := by simp [c]
      rw [this, Nat.mul_succ, List.sum_cons]
      constructor
      · omega
      · intro _; omega
    · have e : ((x :: l).filter fun x => decide (0 < x)) = (l.filter fun x => decide (0 < x)) := by simp [c]
      rw [e, List.sum_cons]
      have : x = 0 := by omega
      subst this
      simp only [Nat.zero_add]
      exact ⟨h1, h2⟩
def gtR (cl : List Nat) (h : Nat) (i s j t : Nat) : Prop := (rs0 cl h j : Int) - (cl.sum : Int) * ((t : Int) - (fl0 cl h j : Int)) < (rs0 cl h i : Int) - (cl.sum : Int) * ((s : Int) - (fl0 cl h i : Int))
def actR (cl : List Nat) (h : Nat) (i : Nat) : Bool := decide (0 < rs0 cl h i)
theorem kordR (cl : List Nat) (h : Nat) (hT : 0 < cl.sum) : KOrd (actR cl h) (gtR cl h) := by
  refine ⟨fun i s j t _ _ a b => ?_, fun i s j t k u _ _ _ a b => ?_, fun i s t _ hs => ?_⟩
  · unfold gtR at a b; omega
  · unfold gtR at a b ⊢; omega
  · unfold gtR
    have : (cl.sum : Int) * ((s : Int) - (fl0 cl h i : Int)) < (cl.sum : Int) * ((t : Int) - (fl0 cl h i : Int)) := Int.mul_lt_mul_of_pos_left (by omega) (by omega)
    omega
abbrev RightR (cl : List Nat) (h : Nat) (r : List Nat) : Prop := Right (actR cl h) (gtR cl h) cl.length (fl0 cl h) (fun i => fl0 cl h i + 1) r
theorem gtR_fl {cl : List Nat} {h i j s t : Nat} (hs : s = fl0 cl h i) (ht : t = fl0 cl h j) : gtR cl h i s j t ↔ rs0 cl h j < rs0 cl h i := by
  subst hs
  subst ht
  unfold gtR
  rw [Int.sub_self, Int.sub_self, Int.mul_zero]
  omega
end G
set_option Elab.async false
set_option linter.all false
set_option maxRecDepth 100000
/-! Q7: rows by rests. -/
namespace G
open PySem MM
theorem fl_insK (q : Nat → Bool) (x : Nat) : ∀ l, ((insK x l).filter q).length = ((x :: l).filter q).length
  | [] => rfl
  | y :: r => by
    unfold insK
    split
    · rfl
    · have ih := fl_insK q x r
      cases a : q x <;> cases b : q y <;> simp [a, b] at ih ⊢ <;> omega
theorem fl_sortK (q : Nat → Bool) : ∀ l, ((sortK l).filter q).length = (l.filter q).length
  | [] => rfl
  | x :: r => by
    have ih := fl_sortK q r
    rw [sortK, fl_insK]
    cases a : q x <;> simp [a] <;> omega
def AscK (l : List Nat) : Prop := l.Pairwise fun a b => a ≤ b
theorem asc_insK (x : Nat) : ∀ l, AscK l → AscK (insK x l)
  | [], _ => List.pairwise_singleton _ _
  | y :: r, h => by
    obtain ⟨h1, h2⟩ := List.pairwise_cons.mp h
    unfold insK
    split
    · rename_i c
      refine List.pairwise_cons.mpr ⟨fun a ha => ?_, h⟩
      rcases List.mem_cons.mp ha with e | e
      · subst e; exact c
      · exact Nat.le_trans c (h1 a e)
    · rename_i c
      refine List.pairwise_cons.mpr ⟨fun a ha => ?_, asc_insK x r h2⟩
      rcases (mem_insK a x r).mp ha with e | e
      · subst e; omega
      · exact h1 a e
theorem asc_sortK : ∀ l, AscK (sortK l)
  | [] => List.Pairwise.nil
  | x :: r => asc_insK x _ (asc_sortK r)
/-- about an ascending list's item: how many are above it, how many not below -/
theorem edge_count (l : List Nat) (h : AscK l) (k : Nat) (hk : k < l.length) : (l.filter fun x => decide (at0 l k < x)).length ≤ l.length - k - 1 ∧ l.length - k ≤ (l.filter fun x => decide (at0 l k ≤ x)).length := by
  have e0 : l = l.take k ++ at0 l k :: l.drop (k + 1) := by
    have h1 : l[k] = at0 l k := by
      show _ = l.getD k 0
      rw [List.getD_eq_getElem?_getD, List.getElem?_eq_getElem hk]; rfl
    have h2 : l.drop k = l[k] :: l.drop (k + 1) := List.drop_eq_getElem_cons hk
    rw [← h1, ← h2, List.take_append_drop]
  generalize at0 l k = e at *
  have h3 : l.Pairwise fun a b => a ≤ b := h
  rw [e0] at h3
  obtain ⟨p1, p2, p3⟩ := List.pairwise_append.mp h3
  obtain ⟨p4, p5⟩ := List.pairwise_cons.mp p2
  have lt : (l.take k).length = k := by rw [List.length_take]; omega
  have ld : (l.drop (k + 1)).length = l.length - (k + 1) := List.length_drop
  constructor
  · have : (l.filter fun x => decide (e < x)).length = ((l.take k ++ e :: l.drop (k + 1)).filter fun x => decide (e < x)).length := by rw [← e0]
    rw [this, List.filter_append, List.length_append]
    have a1 : (l.take k).filter (fun x => decide (e < x)) = [] := List.filter_eq_nil_iff.mpr fun a ha => by
      have := p3 a ha e List.mem_cons_self
      rw [decide_eq_true_eq]; omega
    have a2 : ((e :: l.drop (k + 1)).filter fun x => decide (e < x)) = (l.drop (k + 1)).filter fun x => decide (e < x) := by
      rw [List.filter_cons_of_neg (by rw [decide_eq_true_eq]; omega)]
    rw [a1, a2]
    have := List.length_filter_le (fun x => decide (e < x)) (l.drop (k + 1))
    simp only [List.length_nil]
    omega
  · have : (l.filter fun x => decide (e ≤ x)).length = ((l.take k ++ e :: l.drop (k + 1)).filter fun x => decide (e ≤ x)).length := by rw [← e0]
    rw [this, List.filter_append, List.length_append]
    have a2 : ((e :: l.drop (k + 1)).filter fun x => decide (e ≤ x)) = e :: l.drop (k + 1) := List.filter_eq_self.mpr fun a ha => by
      rcases List.mem_cons.mp ha with q | q
      · subst q; exact decide_eq_true (Nat.le_refl _)
      · exact decide_eq_true (p4 a q)
    rw [a2, List.length_cons]
    omega
def edgeOf (cl : List Nat) (h : Nat) : Nat := at0 (sortK (restsL cl h)) (cl.length - (h - (floorsL cl h).sum))
def sureOf (cl : List Nat) (h : Nat) : List Nat := (List.range cl.length).filter fun i => decide (edgeOf cl h < rs0 cl h i)
def tiedOf (cl : List Nat) (h : Nat) : List Nat := (List.range cl.length).filter fun i => decide (rs0 cl h i = edgeOf cl h)
def baseR (cl : List Nat) (h : Nat) : List Nat := (List.range cl.length).map fun i => if i ∈ sureOf cl h then fl0 cl h i + 1 else fl0 cl h i
def restsIn (cl : List Nat) (h : Nat) : List (List Nat) := if h = (floorsL cl h).sum then [floorsL cl h] else sortN (wm (baseR cl h) (tiedOf cl h) (h - (floorsL cl h).sum - (sureOf cl h).length))
theorem rests_range (cl : List Nat) (h : Nat) : restsL cl h = (List.range cl.length).map (rs0 cl h) := by
  refine ext0 (by simp [restsL]) fun i hi => ?_
  have hi : i < cl.length := by simpa [restsL] using hi
  rw [rs_at cl h i hi, at_rmap _ _ _ hi]
theorem floors_range (cl : List Nat) (h : Nat) : floorsL cl h = (List.range cl.length).map (fl0 cl h) := by
  refine ext0 (by simp [floorsL]) fun i hi => ?_
  have hi : i < cl.length := by simpa [floorsL] using hi
  rw [fl_at cl h i hi, at_rmap _ _ _ hi]
theorem count_range (f : Nat → Nat) (q : Nat → Bool) (n : Nat) : (((List.range n).map f).filter q).length = ((List.range n).filter fun i => q (f i)).length := by
  rw [List.filter_map, List.length_map]; rfl
/-- how the edge lies -/
theorem edge_facts (cl : List Nat) (h : Nat) (hT : 0 < cl.sum) (hm : (floorsL cl h).sum < h) :
    h - (floorsL cl h).sum < ((List.range cl.length).filter fun i => decide (0 < rs0 cl h i)).length ∧ (sureOf cl h).length < h - (floorsL cl h).sum ∧ h - (floorsL cl h).sum ≤ ((List.range cl.length).filter fun i => decide (edgeOf cl h ≤ rs0 cl h i)).length ∧ 0 < edgeOf cl h := by
  obtain ⟨_, s2⟩ := rests_sum cl h hT
  have c1 := sum_lt_count cl.sum (restsL cl h) (fun x hx => by
    unfold restsL at hx
    obtain ⟨c, _, rfl⟩ := List.mem_map.mp hx
    exact Nat.mod_lt _ hT)
  have e1 : ((restsL cl h).filter fun x => decide (0 < x)).length = ((List.range cl.length).filter fun i => decide (0 < rs0 cl h i)).length := by
    rw [rests_range]; exact count_range _ _ _
  rw [e1, s2] at c1
  generalize hk : h - (floorsL cl h).sum = many at *
  have hpos : 0 < many := by omega
  have f1 : many < ((List.range cl.length).filter fun i => decide (0 < rs0 cl h i)).length := by
    have h1 : many ≤ ((List.range cl.length).filter fun i => decide (0 < rs0 cl h i)).length := Nat.le_of_mul_le_mul_left c1.1 hT
    exact Nat.lt_of_mul_lt_mul_left (c1.2 (by omega))
  have hn : ((List.range cl.length).filter fun i => decide (0 < rs0 cl h i)).length ≤ cl.length := Nat.le_trans (List.length_filter_le _ _) (by simp)
  have ll : (sortK (restsL cl h)).length = cl.length := by rw [len_sortK]; unfold restsL; simp
  obtain ⟨g1, g2⟩ := edge_count (sortK (restsL cl h)) (asc_sortK _) (cl.length - many) (by omega)
  have he : at0 (sortK (restsL cl h)) (cl.length - many) = edgeOf cl h := by unfold edgeOf; rw [hk]
  rw [he, fl_sortK, rests_range, count_range, ← rests_range, ll] at g1 g2
  have g1' : (sureOf cl h).length ≤ cl.length - (cl.length - many) - 1 := g1
  refine ⟨f1, by omega, by omega, ?_⟩
  rcases Nat.eq_zero_or_pos (edgeOf cl h) with z | z
  · rw [z] at g1
    have : ((List.range cl.length).filter fun i => decide (0 < rs0 cl h i)).length ≤ cl.length - (cl.length - many) - 1 := g1
    omega
  · exact z
theorem rests_low (cl : List Nat) (h : Nat) : RightR cl h (floorsL cl h) := right_low (by simp [floorsL]) (fun i hi => fl_at cl h i hi) (fun i _ _ => by omega)
theorem filter_sub_len (n : Nat) (p q : Nat → Bool) (h : ∀ i, i < n → p i = true → q i = true) : ((List.range n).filter p).length ≤ ((List.range n).filter q).length :=
  sub_len _ _ (List.nodup_range.filter _) fun x hx => by
    obtain ⟨h1, h2⟩ := List.mem_filter.mp hx
    exact List.mem_filter.mpr ⟨h1, h x (List.mem_range.mp h1) h2⟩
theorem filter_sub_lt (n : Nat) (p q : Nat → Bool) (h : ∀ i, i < n → p i = true → q i = true) (j : Nat) (hj : j < n) (h1 : q j = true) (h2 : p j = false) : ((List.range n).filter p).length < ((List.range n).filter q).length := by
  have := sub_len (j :: (List.range n).filter p) ((List.range n).filter q) (List.nodup_cons.mpr ⟨(fun k => by have := (List.mem_filter.mp k).2; rw [h2] at this; cases this), List.nodup_range.filter _⟩) fun x hx => by
    rcases List.mem_cons.mp hx with e | e
    · subst e; exact List.mem_filter.mpr ⟨List.mem_range.mpr hj, h1⟩
    · obtain ⟨h1, h2⟩ := List.mem_filter.mp e
      exact List.mem_filter.mpr ⟨h1, h x (List.mem_range.mp h1) h2⟩
  rw [List.length_cons] at this
  omega
theorem restsIn_spec (cl : List Nat) (h : Nat) (hT : 0 < cl.sum) : Asc (restsIn cl h) ∧ ∀ r, r ∈ restsIn cl h ↔ RightR cl h r ∧ r.sum = h := by
  obtain ⟨s1, s2⟩ := rests_sum cl h hT
  unfold restsIn
  by_cases hz : h = (floorsL cl h).sum
  · rw [if_pos hz]
    refine ⟨List.pairwise_singleton _ _, fun r => ?_⟩
    rw [List.mem_singleton]
    constructor
    · intro e
      have hz' := hz.symm
      rw [e]
      exact ⟨rests_low cl h, hz'⟩
    · rintro ⟨Q, hs⟩
      exact right_base Q (by simp [floorsL]) (fun i hi => fl_at cl h i hi) (by omega)
  · rw [if_neg hz]
    obtain ⟨f1, f2, f3, f4⟩ := edge_facts cl h hT (by omega)
    have nd : (tiedOf cl h).Nodup := List.nodup_range.filter _
    have bl : (baseR cl h).length = cl.length := by unfold baseR; simp
    have hlt : ∀ i ∈ tiedOf cl h, i < (baseR cl h).length := fun i hi => by rw [bl]; exact List.mem_range.mp (List.mem_filter.mp hi).1
    have ms : ∀ i, i < cl.length → (i ∈ sureOf cl h ↔ edgeOf cl h < rs0 cl h i) := fun i hi => by
      unfold sureOf
      rw [List.mem_filter, List.mem_range, decide_eq_true_eq]
      exact ⟨fun h => h.2, fun h => ⟨hi, h⟩⟩
    have mt : ∀ i, i < cl.length → (i ∈ tiedOf cl h ↔ rs0 cl h i = edgeOf cl h) := fun i hi => by
      unfold tiedOf
      rw [List.mem_filter, List.mem_range, decide_eq_true_eq]
      exact ⟨fun h => h.2, fun h => ⟨hi, h⟩⟩
    have ba : ∀ i, i < cl.length → at0 (baseR cl h) i = if edgeOf cl h < rs0 cl h i then fl0 cl h i + 1 else fl0 cl h i := fun i hi => by
      unfold baseR
      rw [at_rmap _ _ _ hi]
      by_cases c : edgeOf cl h < rs0 cl h i
      · rw [if_pos c, if_pos ((ms i hi).mpr c)]
      · rw [if_neg c, if_neg fun k => c ((ms i hi).mp k)]
    have bs : (baseR cl h).sum = (floorsL cl h).sum + (sureOf cl h).length := by
      have e := sum_range_map (fl0 cl h) (fun i => if edgeOf cl h < rs0 cl h i then fl0 cl h i + 1 else fl0 cl h i) (fun i => decide (edgeOf cl h < rs0 cl h i)) (fun i hi => by rw [decide_eq_true_eq] at hi; rw [if_pos hi]) (fun i hi => by rw [decide_eq_false_iff_not] at hi; rw [if_neg hi]) (List.range cl.length)
      have e2 : baseR cl h = (List.range cl.length).map fun i => if edgeOf cl h < rs0 cl h i then fl0 cl h i + 1 else fl0 cl h i := by
        unfold baseR
        apply List.map_congr_left
        intro i hi
        have hi := List.mem_range.mp hi
        by_cases c : edgeOf cl h < rs0 cl h i
        · rw [if_pos c, if_pos ((ms i hi).mpr c)]
        · rw [if_neg c, if_neg fun k => c ((ms i hi).mp k)]
      rw [e2, ← e, floors_range]
      rfl
    refine ⟨asc_sortN _ (wm_nodup _ _ _ nd hlt), fun r => ?_⟩
    rw [mem_sortN, mem_wm _ _ _ r nd hlt]
    constructor
    · intro S
      have rl : r.length = cl.length := by rw [S.len, bl]
      have hr : ∀ i, i < cl.length → (edgeOf cl h < rs0 cl h i → at0 r i = fl0 cl h i + 1) ∧ (rs0 cl h i < edgeOf cl h → at0 r i = fl0 cl h i) ∧ fl0 cl h i ≤ at0 r i ∧ at0 r i ≤ fl0 cl h i + 1 := fun i hi => by
        have b := ba i hi
        by_cases c : i ∈ tiedOf cl h
        · have e := (mt i hi).mp c
          rw [if_neg (by omega)] at b
          have h1 := S.ge i c
          have h2 := S.le i c
          rw [b] at h1 h2
          exact ⟨fun _ => by omega, fun _ => by omega, h1, h2⟩
        · have e : ¬ rs0 cl h i = edgeOf cl h := fun k => c ((mt i hi).mpr k)
          have o := S.out i c
          rw [b] at o
          by_cases d : edgeOf cl h < rs0 cl h i
          · rw [if_pos d] at o
            exact ⟨fun _ => o, fun _ => by omega, by omega, by omega⟩
          · rw [if_neg d] at o
            exact ⟨fun _ => by omega, fun _ => o, by omega, by omega⟩
      refine ⟨⟨rl, fun i hi => (hr i hi).2.2.1, fun i hi _ => (hr i hi).2.2.2, fun i hi ai => ?_, fun i j hi hj ai aj gi bj => ?_⟩, ?_⟩
      · unfold actR at ai
        rw [decide_eq_false_iff_not] at ai
        exact (hr i hi).2.1 (by omega)
      · have a1 := hr i hi
        have a2 := hr j hj
        have e1 : at0 r i = fl0 cl h i + 1 := by omega
        have e2 : at0 r j = fl0 cl h j := by
          have bj : at0 r j < fl0 cl h j + 1 := bj
          omega
        rw [gtR_fl e2 (by rw [e1]; rfl)]
        have q1 : ¬ rs0 cl h i < edgeOf cl h := fun k => by have := a1.2.1 k; omega
        have q2 : ¬ edgeOf cl h < rs0 cl h j := fun k => by have := a2.1 k; omega
        omega
      · rw [S.sum, bs]; omega
    · rintro ⟨Q, hs⟩
      have hr : ∀ i, i < cl.length → fl0 cl h i ≤ at0 r i ∧ at0 r i ≤ fl0 cl h i + 1 := fun i hi => by
        refine ⟨Q.low i hi, ?_⟩
        cases c : actR cl h i with
        | true => exact Q.high i hi c
        | false => rw [Q.off i hi c]; omega
      -- how many have one more
      have ups : ((List.range cl.length).filter fun i => decide (at0 r i = fl0 cl h i + 1)).length = h - (floorsL cl h).sum := by
        have e := sum_range_map (fl0 cl h) (fun i => if at0 r i = fl0 cl h i + 1 then fl0 cl h i + 1 else fl0 cl h i) (fun i => decide (at0 r i = fl0 cl h i + 1)) (fun i hi => by rw [decide_eq_true_eq] at hi; rw [if_pos hi]) (fun i hi => by rw [decide_eq_false_iff_not] at hi; rw [if_neg hi]) (List.range cl.length)
        have e3 : ((List.range cl.length).map fun i => if at0 r i = fl0 cl h i + 1 then fl0 cl h i + 1 else fl0 cl h i) = (List.range cl.length).map (at0 r) := by
          apply List.map_congr_left
          intro i hi
          have := hr i (List.mem_range.mp hi)
          show (if at0 r i = fl0 cl h i + 1 then fl0 cl h i + 1 else fl0 cl h i) = at0 r i
          split <;> omega
        have e4 : ((List.range cl.length).map (at0 r)).sum = r.sum := by rw [← Q.len, range_at]
        rw [e3, e4] at e
        have e5 : ((List.range cl.length).map (fl0 cl h)).sum = (floorsL cl h).sum := by rw [floors_range]
        omega
      have up : ∀ i, i < cl.length → edgeOf cl h < rs0 cl h i → at0 r i = fl0 cl h i + 1 := fun i hi hlt' => Classical.byContradiction fun c => by
        have e2 : at0 r i = fl0 cl h i := by have := hr i hi; omega
        have ai : actR cl h i = true := decide_eq_true (by omega)
        have : ((List.range cl.length).filter fun i => decide (at0 r i = fl0 cl h i + 1)).length < (sureOf cl h).length := filter_sub_lt _ _ _ (fun j hj hq => by
          rw [decide_eq_true_eq] at hq
          have aj : actR cl h j = true := by
            cases d : actR cl h j with
            | true => rfl
            | false => have := Q.off j hj d; omega
          have := Q.ord j i hj hi aj ai (by omega) (by show at0 r i < fl0 cl h i + 1; omega)
          rw [gtR_fl e2 (by rw [hq]; rfl)] at this
          exact decide_eq_true (by omega)) i hi (decide_eq_true hlt') (decide_eq_false c)
        omega
      have dn : ∀ i, i < cl.length → rs0 cl h i < edgeOf cl h → at0 r i = fl0 cl h i := fun i hi hlt' => Classical.byContradiction fun c => by
        have e2 : at0 r i = fl0 cl h i + 1 := by have := hr i hi; omega
        have ai : actR cl h i = true := by
          cases d : actR cl h i with
          | true => rfl
          | false => exact absurd (Q.off i hi d) c
        have : ((List.range cl.length).filter fun i => decide (edgeOf cl h ≤ rs0 cl h i)).length < ((List.range cl.length).filter fun i => decide (at0 r i = fl0 cl h i + 1)).length := filter_sub_lt _ _ _ (fun j hj hq => by
          rw [decide_eq_true_eq] at hq
          refine decide_eq_true (Classical.byContradiction fun d => ?_)
          have e3 : at0 r j = fl0 cl h j := by have := hr j hj; omega
          have aj : actR cl h j = true := decide_eq_true (by omega)
          have := Q.ord i j hi hj ai aj (by omega) (by show at0 r j < fl0 cl h j + 1; omega)
          rw [gtR_fl e3 (by rw [e2]; rfl)] at this
          omega) i hi (decide_eq_true e2) (decide_eq_false (by omega))
        omega
      refine ⟨by rw [Q.len, bl], fun i hi => ?_, fun i hi => ?_, fun i hi => ?_, by rw [bs]; omega⟩
      · by_cases c : i < cl.length
        · rw [ba i c]
          have d : ¬ rs0 cl h i = edgeOf cl h := fun k => hi ((mt i c).mpr k)
          by_cases e : edgeOf cl h < rs0 cl h i
          · rw [if_pos e]; exact up i c e
          · rw [if_neg e]; exact dn i c (by omega)
        · have e1 : at0 r i = 0 := by unfold at0; rw [List.getD_eq_getElem?_getD, List.getElem?_eq_none (by rw [Q.len]; omega)]; rfl
          have e2 : at0 (baseR cl h) i = 0 := by unfold at0; rw [List.getD_eq_getElem?_getD, List.getElem?_eq_none (by rw [bl]; omega)]; rfl
          rw [e1, e2]
      · have c := hlt i hi
        rw [bl] at c
        rw [ba i c, if_neg (by have := (mt i c).mp hi; omega)]
        exact (hr i c).1
      · have c := hlt i hi
        rw [bl] at c
        rw [ba i c, if_neg (by have := (mt i c).mp hi; omega)]
        exact (hr i c).2
end G
set_option Elab.async false
set_option linter.all false
set_option maxRecDepth 100000
/-! S12: quotas, bounds, rests. -/
namespace G
open PySem MM
section
variable {n : Nat} {h : MH}
/-- a ratio, lowered -/
def qM (a b : Nat) : MV := .tup [.int (low a b).1, .int (low a b).2]
theorem sm_of {a : Nat} (k : Nat) (h : a < 2 ^ k) (hk : k ≤ 4000) : Sm (a : Int) := small_nat h hk
/-- what claims and houses may be -/
structure ClOk (cl : List Nat) : Prop where
  le : ∀ c ∈ cl, c ≤ 10 ^ 6
  few : cl.length ≤ 100
theorem sum_le {cl : List Nat} {b : Nat} (h : ∀ c ∈ cl, c ≤ b) : cl.sum ≤ cl.length * b := by
  induction cl with
  | nil => simp
  | cons a l ih =>
    have := ih fun c hc => h c (List.mem_cons_of_mem _ hc)
    have := h a List.mem_cons_self
    rw [List.sum_cons, List.length_cons, Nat.succ_mul]
    omega
theorem ClOk.sum {cl : List Nat} (V : ClOk cl) : cl.sum ≤ 10 ^ 8 := Nat.le_trans (sum_le V.le) (by have := V.few; omega)
theorem ClOk.tot {cl : List Nat} (V : ClOk cl) : cl.sum < 2 ^ 30 := Nat.lt_of_le_of_lt V.sum (by decide)
theorem sum_M (cl : List Nat) (h : MH) : biV .sum [.tup (cl.map natM)] h = .ok (.int ((cl.sum : Nat) : Int)) h := by
  rw [natM_cast, bi_sum_t, sum_nat]
theorem sum_L (cl : List Nat) (h : MH) : biV .sum [.lst (cl.map natM)] h = .ok (.int ((cl.sum : Nat) : Int)) h := by
  rw [natM_cast, bi_sum_l, sum_nat]
theorem mul_claim {c house : Nat} (h1 : c ≤ 10 ^ 6) (h2 : house ≤ 10 ^ 6) : mulOk (c : Int) (house : Int) = true := mul_ok (sm_of 20 (by omega) (by omega)) (sm_of 20 (by omega) (by omega))
def maxN (T : Nat) : Nat := if 1 < T then T else 1
theorem sp_quotas_in (hn : 3 ≤ n) {cl : List Nat} (V : ClOk cl) (house : Nat) (hh : house ≤ 10 ^ 6) (hT : 0 < cl.sum ∨ house = 0) : callK none T n 76 [.tup (cl.map natM), .int (house : Int)] h = .ok (.tup (cl.map fun c => qM (c * house) (maxN cl.sum))) h := by
  rw [call_at T_quotas_in (by omega)]
  have sm := sum_M cl h
  have hs := V.tot
  generalize cl.sum = S at *
  have c0 : evF (callK none T (n - 1)) c0_quotas_in [some (.tup (cl.map natM)), some (.int (house : Int)), some (.int (S : Int)), none] h = .ok (cl.map fun c => qM (c * house) (maxN S)) h := by
    have c := comp_map (G := callK none T (n - 1)) (own := [3]) (tg := .nm 3) (it := .seq (.var 0)) (c := .tt) (elt := .call 5 (.cons (.bin .mul (.var 3) (.var 1)) (.cons (.bi .max2 (.cons (.int 1) (.cons (.var 2) .nil))) .nil))) (e := [some (.tup (cl.map natM)), some (.int (house : Int)), some (.int (S : Int)), none]) (h := h)
      cl natM (fun _ => true) (fun c => qM (c * house) (maxN S)) (by simp [evI, evE]) (fun c hc => by
        have m := mul_claim (V.le c hc) hh
        have e : (if (S : Int) > 1 then (S : Int) else 1) = ((maxN S : Nat) : Int) := by
          unfold maxN
          by_cases k : 1 < S
          · rw [if_pos k, if_pos (by omega)]
          · rw [if_neg k, if_neg (by omega)]; rfl
        have md := sp_made (n - 1) (by omega) ((c * house : Nat) : Int) ((maxN S : Nat) : Int) (by unfold maxN; split <;> omega) (sm_of 30 (by unfold maxN; split <;> omega) (by omega)) h
        refine ⟨_, rfl, rfl, fun _ => ?_⟩
        have e2 : ((c : Int) * (house : Int)) = ((c * house : Nat) : Int) := by simp
        have md' : callK none T (n - 1) 5 [.int ((c : Int) * (house : Int)), .int (if (S : Int) > 1 then (S : Int) else 1)] h = .ok (qM (c * house) (maxN S)) h := by rw [e, e2]; exact md
        have e3 : (if (1 : Int) < (S : Int) then (S : Int) else 1) = (if (S : Int) > 1 then (S : Int) else 1) := rfl
        simp [evE, evEs, natM, m, wipeM]
        rw [e3, md']) (by have := V.few; omega)
    rw [List.filter_eq_self.mpr (fun _ _ => rfl)] at c
    exact c
  by_cases z : S = 0
  · have hz : house = 0 := by omega
    subst hz
    subst z
    simp at sm c0
    simp [runFn, fn_quotas_in, b_quotas_in, finFn, evSs, evS, evE, evEs, evB, evAll, evF, evT, sm, c0]
  · simp [runFn, fn_quotas_in, b_quotas_in, finFn, evSs, evS, evE, evEs, evB, evAll, evF, evT, sm, c0, z]
/-- the floor of a lowered ratio, and the ceiling -/
theorem low_floor (a b : Nat) (hb : 0 < b) : (low a b).1 / (low a b).2 = ((a / b : Nat) : Int) ∧ 0 < (low a b).2 ∧ (low a b).2 ≤ b ∧ -(-(low a b).1 / (low a b).2) = (((a + b - 1) / b : Nat) : Int) := by
  obtain ⟨x, y, e, y0, _, yl, g, g0, ea, eb, _⟩ := low_cross a b hb
  rw [e]
  refine ⟨?_, (by show (0 : Int) < (y : Int); omega), (by show (y : Int) ≤ (b : Int); omega), ?_⟩
  · show ((x : Int) / (y : Int)) = _
    have : x / y = a / b := by rw [ea, eb]; exact (Nat.mul_div_mul_right x y g0).symm
    rw [← this]; rfl
  · show -(-(x : Int) / (y : Int)) = _
    have h1 : (a + b - 1) / b = (x + y - 1) / y := by
      have d1 := Nat.div_add_mod (x + y - 1) y
      have m1 := Nat.mod_lt (x + y - 1) y0
      generalize (x + y - 1) / y = q at *
      generalize (x + y - 1) % y = r at *
      rw [Nat.div_eq_iff hb]
      have t1 : y * q ≤ x + y - 1 := by omega
      have t2 : x ≤ y * q := by omega
      have t3 : y * q < x + y := by omega
      have u1 : q * b = y * q * g := by rw [eb]; grind
      rw [u1]
      have v1 := Nat.mul_le_mul_right g t2
      have v2 : (y * q + 1) * g ≤ (x + y) * g := Nat.mul_le_mul_right g t3
      rw [Nat.add_mul, Nat.add_mul, Nat.one_mul] at v2
      omega
    rw [h1]
    have d1 := Nat.div_add_mod (x + y - 1) y
    have m1 := Nat.mod_lt (x + y - 1) y0
    generalize (x + y - 1) / y = q at *
    generalize (x + y - 1) % y = r at *
    have : -(x : Int) / (y : Int) = -(q : Int) := by
      have e1 : -(x : Int) = ((y : Int) - 1 - (r : Int)) + (y : Int) * (-(q : Int)) := by
        have : ((y * q : Nat) : Int) = (y : Int) * (q : Int) := by simp
        rw [Int.mul_neg, ← this]
        omega
      rw [e1, Int.add_mul_ediv_left _ _ (by omega), Int.ediv_eq_zero_of_lt (by omega) (by omega)]
      omega
    rw [this]; omega
theorem qM_at (a b : Nat) : qM a b = .tup [.int (low a b).1, .int (low a b).2] := rfl
theorem sp_whole_of (hn : 1 ≤ n) (a b : Nat) (hb : 0 < b) (sb : b < 2 ^ 30) : callK none T n 77 [qM a b] h = .ok (.int ((a / b : Nat) : Int)) h := by
  rw [call_at T_whole_of (by omega)]
  obtain ⟨h1, h2, h3, _⟩ := low_floor a b hb
  have d : divOk (low a b).1 (low a b).2 = true := div_ok h2 ⟨30, by omega, by omega⟩
  rw [qM_at]
  simp [runFn, fn_whole_of, b_whole_of, finFn, evSs, evS, evE, d, h1]
def ceilL (cl : List Nat) (h : Nat) : List Nat := cl.map fun c => (c * h + cl.sum - 1) / cl.sum
def qBounds (cl : List Nat) (h : Nat) : List (Nat × Nat) := cl.map fun c => (c * h / maxN cl.sum, (c * h + maxN cl.sum - 1) / maxN cl.sum)
theorem sp_bounds_by (hn : 2 ≤ n) {cl : List Nat} (V : ClOk cl) (house : Nat) : callK none T n 78 [.tup (cl.map fun c => qM (c * house) (maxN cl.sum))] h = .ok (.tup ((qBounds cl house).map pairM)) h := by
  rw [call_at T_bounds_by (by omega)]
  have hs := V.tot
  unfold qBounds
  have m0 : 0 < maxN cl.sum := by unfold maxN; split <;> omega
  have m1 : maxN cl.sum < 2 ^ 30 := by unfold maxN; split <;> omega
  generalize maxN cl.sum = S at *
  have c0 : evF (callK none T (n - 1)) c0_bounds_by [some (.tup (cl.map fun c => qM (c * house) S)), none] h = .ok (cl.map fun c => pairM (c * house / S, (c * house + S - 1) / S)) h := by
    have c := comp_map (G := callK none T (n - 1)) (own := [1]) (tg := .nm 1) (it := .seq (.var 0)) (c := .tt) (elt := .tup (.cons (.call 77 (.cons (.var 1) .nil)) (.cons (.neg (.bin .fdiv (.neg (.ix (.var 1) (.int 0))) (.ix (.var 1) (.int 1)))) .nil))) (e := [some (.tup (cl.map fun c => qM (c * house) S)), none]) (h := h)
      cl (fun c => qM (c * house) S) (fun _ => true) (fun c => pairM (c * house / S, (c * house + S - 1) / S)) (by simp [evI, evE]) (fun c hc => by
        have w := sp_whole_of (n := n - 1) (h := h) (by omega) (c * house) S m0 m1
        obtain ⟨h1, h2, h3, h4⟩ := low_floor (c * house) S m0
        have d : divOk (-(low ((c * house : Nat) : Int) S).1) (low ((c * house : Nat) : Int) S).2 = true := div_ok h2 ⟨30, by omega, by omega⟩
        refine ⟨_, rfl, rfl, fun _ => ?_⟩
        unfold qM at w ⊢
        generalize (low ((c * house : Nat) : Int) S).1 = u at *
        generalize (low ((c * house : Nat) : Int) S).2 = v at *
        simp [evE, evEs, w, d, wipeM, pairM, h4]) (by have := V.few; omega)
    rw [List.filter_eq_self.mpr (fun _ _ => rfl)] at c
    exact c
  rw [List.map_map]
  simp [runFn, fn_bounds_by, b_bounds_by, finFn, evSs, evS, evE, evEs, evF, evT, c0]
/-! ### rests_in -/
theorem at_back (l : List Nat) (k : Nat) (h1 : 0 < k) (h2 : k ≤ l.length) (h : MH) : ixV (.lst (l.map natM)) (.int (-(k : Int))) h = .ok (.int ((at0 l (l.length - k) : Nat) : Int)) h := by
  have e : L2.atI (l.map natM) (-(k : Int)) = some (natM (at0 l (l.length - k))) := by
    unfold L2.atI L2.ixN
    rw [List.length_map, if_neg (by omega), if_pos (by omega)]
    have e : (-(k : Int) + (l.length : Int)).toNat = l.length - k := by omega
    rw [e]
    show (l.map natM)[l.length - k]? = _
    rw [List.getElem?_map, get_of 0 (by omega)]
    rfl
  show (match L2.atI (l.map natM) (-(k : Int)) with | some v => Res.ok v h | none => .bad) = _
  rw [e]; rfl
theorem floors_maxN (cl : List Nat) (house : Nat) (hT : 0 < cl.sum ∨ house = 0) : (cl.map fun c => c * house / maxN cl.sum) = floorsL cl house := by
  unfold floorsL
  apply List.map_congr_left
  intro c _
  rcases hT with h | h
  · have : maxN cl.sum = cl.sum := by unfold maxN; split <;> omega
    rw [this]
  · subst h; simp
def mkT (cl : List Nat) (house : Nat) (x3 : MV) : MEnv := [some (.tup (cl.map natM)), some (.int (house : Int)), some (.tup (cl.map fun c => qM (c * house) (maxN cl.sum))), some x3, some (.int ((house - (floorsL cl house).sum : Nat) : Int)), some (.int ((cl.sum : Nat) : Int)), some (.lst ((restsL cl house).map natM)), some (.int ((edgeOf cl house : Nat) : Int)), some (.lst ((sureOf cl house).map natM)), some (.lst ((tiedOf cl house).map natM)), none, none, none, none, none]
theorem filter_map_all {α β : Type} (f : α → β) (l : List α) : (l.filter fun _ => true).map f = l.map f := by rw [List.filter_eq_self.mpr (fun _ _ => rfl)]
variable {cl : List Nat}
theorem rests_c0 (hn : 2 ≤ n) (V : ClOk cl) (house : Nat) (hT : 0 < cl.sum ∨ house = 0) : evF (callK none T (n - 1)) c0_rests_in [some (.tup (cl.map natM)), some (.int (house : Int)), some (.tup (cl.map fun c => qM (c * house) (maxN cl.sum))), none, none, none, none, none, none, none, none, none, none, none, none] h = .ok ((floorsL cl house).map natM) h := by
  have hs := V.tot
  have m0 : 0 < maxN cl.sum := by unfold maxN; split <;> omega
  have m1 : maxN cl.sum < 2 ^ 30 := by unfold maxN; split <;> omega
  have c := comp_map (G := callK none T (n - 1)) (own := [10]) (tg := .nm 10) (it := .seq (.var 2)) (c := .tt) (elt := .call 77 (.cons (.var 10) .nil)) (e := [some (.tup (cl.map natM)), some (.int (house : Int)), some (.tup (cl.map fun c => qM (c * house) (maxN cl.sum))), none, none, none, none, none, none, none, none, none, none, none, none]) (h := h)
      cl (fun c => qM (c * house) (maxN cl.sum)) (fun _ => true) (fun c => natM (c * house / maxN cl.sum)) (by simp [evI, evE]) (fun c hc => by
        have w := sp_whole_of (n := n - 1) (h := h) (by omega) (c * house) (maxN cl.sum) m0 m1
        refine ⟨_, rfl, rfl, fun _ => ?_⟩
        simp [evE, evEs, w, wipeM, natM]) (by have := V.few; omega)
  rw [filter_map_all] at c
  rw [← floors_maxN cl house hT, List.map_map]
  exact c
theorem rests_c1 (G : MM.Callee) (V : ClOk cl) (house : Nat) (hh : house ≤ 10 ^ 6) (hT : 0 < cl.sum) (x3 x4 : Option MV) : evF G c1_rests_in [some (.tup (cl.map natM)), some (.int (house : Int)), some (.tup (cl.map fun c => qM (c * house) (maxN cl.sum))), x3, x4, some (.int ((cl.sum : Nat) : Int)), none, none, none, none, none, none, none, none, none] h = .ok ((restsL cl house).map natM) h := by
  have c := comp_map (G := G) (own := [11]) (tg := .nm 11) (it := .seq (.var 0)) (c := .tt) (elt := .bin .mod (.bin .mul (.var 11) (.var 1)) (.var 5)) (e := [some (.tup (cl.map natM)), some (.int (house : Int)), some (.tup (cl.map fun c => qM (c * house) (maxN cl.sum))), x3, x4, some (.int ((cl.sum : Nat) : Int)), none, none, none, none, none, none, none, none, none]) (h := h)
      cl natM (fun _ => true) (fun c => natM (c * house % cl.sum)) (by simp [evI, evE]) (fun c hc => by
        have m := mul_claim (V.le c hc) hh
        refine ⟨_, rfl, rfl, fun _ => ?_⟩
        simp [evE, evEs, wipeM, natM, m, hT]) (by have := V.few; omega)
  rw [filter_map_all] at c
  unfold restsL
  rw [List.map_map]
  exact c
theorem rests_len (cl : List Nat) (house : Nat) : (restsL cl house).length = cl.length := by unfold restsL; simp
theorem rests_c2 (G : MM.Callee) (V : ClOk cl) (house : Nat) (x0 x1 x2 x3 x4 x5 : Option MV) : evF G c2_rests_in [x0, x1, x2, x3, x4, x5, some (.lst ((restsL cl house).map natM)), some (.int ((edgeOf cl house : Nat) : Int)), none, none, none, none, none, none, none] h = .ok ((sureOf cl house).map natM) h := by
  have c := comp_map (G := G) (own := [12, 13]) (tg := .tup (.cons (.nm 12) (.cons (.nm 13) .nil))) (it := .enum (.var 6)) (c := .val (.cmp .gt (.var 13) (.var 7))) (elt := .var 12) (e := [x0, x1, x2, x3, x4, x5, some (.lst ((restsL cl house).map natM)), some (.int ((edgeOf cl house : Nat) : Int)), none, none, none, none, none, none, none]) (h := h)
      (List.range cl.length) (fun (i : Nat) => MV.tup [.int (i : Int), natM (at0 (restsL cl house) i)]) (fun i => decide (edgeOf cl house < rs0 cl house i)) natM (by simp [evI, evE, enumN, rests_len]) (fun i hi => by
        have hi := List.mem_range.mp hi
        rw [rs_at cl house i hi]
        refine ⟨_, rfl, ?_, fun _ => by simp [evE, wipeM, natM]⟩
        simp [evB, evE, wipeM, natM]) (by simp; have := V.few; omega)
  exact c
theorem rests_c3 (G : MM.Callee) (V : ClOk cl) (house : Nat) (x0 x1 x2 x3 x4 x5 x8 : Option MV) : evF G c3_rests_in [x0, x1, x2, x3, x4, x5, some (.lst ((restsL cl house).map natM)), some (.int ((edgeOf cl house : Nat) : Int)), x8, none, none, none, none, none, none] h = .ok ((tiedOf cl house).map natM) h := by
  have c := comp_map (G := G) (own := [12, 13]) (tg := .tup (.cons (.nm 12) (.cons (.nm 13) .nil))) (it := .enum (.var 6)) (c := .val (.cmp .eq (.var 13) (.var 7))) (elt := .var 12) (e := [x0, x1, x2, x3, x4, x5, some (.lst ((restsL cl house).map natM)), some (.int ((edgeOf cl house : Nat) : Int)), x8, none, none, none, none, none, none]) (h := h)
      (List.range cl.length) (fun (i : Nat) => MV.tup [.int (i : Int), natM (at0 (restsL cl house) i)]) (fun i => decide (rs0 cl house i = edgeOf cl house)) natM (by simp [evI, evE, enumN, rests_len]) (fun i hi => by
        have hi := List.mem_range.mp hi
        rw [rs_at cl house i hi]
        refine ⟨_, rfl, ?_, fun _ => by simp [evE, wipeM, natM]⟩
        simp [evB, evE, wipeM, natM]
        omega) (by simp; have := V.few; omega)
  exact c
theorem cm_in (i : Nat) (g : List Nat) (h : MH) : cmpV .isIn (.int (i : Int)) (.lst (g.map natM)) h = .ok (.bl (decide (i ∈ g))) h := by
  show okIf (shp 50 (MV.int (i : Int)) && shpL 50 (g.map natM)) (MV.bl (inL (MV.int (i : Int)) (g.map natM))) h = _
  rw [shp_nats 49, inL_nat]
  rfl
theorem floors_len (cl : List Nat) (house : Nat) : (floorsL cl house).length = cl.length := by unfold floorsL; simp
theorem rests_c4 (G : MM.Callee) (V : ClOk cl) (house : Nat) (x0 x1 x2 x4 x5 x6 x7 x9 : Option MV) : evF G c4_rests_in [x0, x1, x2, some (.tup ((floorsL cl house).map natM)), x4, x5, x6, x7, some (.lst ((sureOf cl house).map natM)), x9, none, none, none, none, none] h = .ok ((baseR cl house).map natM) h := by
  have c := comp_map (G := G) (own := [12, 14]) (tg := .tup (.cons (.nm 12) (.cons (.nm 14) .nil))) (it := .enum (.var 3)) (c := .tt) (elt := .ite (.val (.cmp .isIn (.var 12) (.var 8))) (.bin .add (.var 14) (.int 1)) (.var 14)) (e := [x0, x1, x2, some (.tup ((floorsL cl house).map natM)), x4, x5, x6, x7, some (.lst ((sureOf cl house).map natM)), x9, none, none, none, none, none]) (h := h)
      (List.range cl.length) (fun (i : Nat) => MV.tup [.int (i : Int), natM (at0 (floorsL cl house) i)]) (fun _ => true) (fun i => natM (if i ∈ sureOf cl house then fl0 cl house i + 1 else fl0 cl house i)) (by simp [evI, evE, enumN, floors_len]) (fun i hi => by
        have hi := List.mem_range.mp hi
        rw [fl_at cl house i hi]
        have cm := cm_in i (sureOf cl house) h
        refine ⟨_, rfl, rfl, fun _ => ?_⟩
        by_cases k : i ∈ sureOf cl house <;> simp [evB, evE, wipeM, natM, cm, k]) (by simp; have := V.few; omega)
  rw [filter_map_all] at c
  unfold baseR
  rw [List.map_map]
  exact c
theorem sp_rests_in (hn : cl.length + 4 ≤ n) (V : ClOk cl) (h16 : cl.length ≤ 16) (h0 : 0 < cl.length) (house : Nat) (hh : house ≤ 10 ^ 6) (hT : 0 < cl.sum ∨ house = 0) : callK none T n 79 [.tup (cl.map natM), .int (house : Int)] h = .ok (.lst ((restsIn cl house).map rowM)) h := by
  rw [call_at T_rests_in (by omega)]
  have q := sp_quotas_in (n := n - 1) (h := h) (by omega) V house hh hT
  have c0 := rests_c0 (n := n) (h := h) (by omega) V house hT
  have sf := sum_M (floorsL cl house) h
  have hle : (floorsL cl house).sum ≤ house := by
    rcases hT with k | k
    · exact (rests_sum cl house k).1
    · subst k
      have : floorsL cl 0 = cl.map fun _ => 0 := by unfold floorsL; simp
      rw [this]
      have : ∀ l : List Nat, (l.map fun _ => 0).sum = 0 := fun l => by induction l with
        | nil => rfl
        | cons a l ih => simp [ih]
      rw [this]; exact Nat.le_refl _
  have em : (house : Int) - (((floorsL cl house).sum : Nat) : Int) = ((house - (floorsL cl house).sum : Nat) : Int) := by omega
  by_cases hz : house = (floorsL cl house).sum
  · have hr : restsIn cl house = [floorsL cl house] := by unfold restsIn; rw [if_pos hz]
    have em2 : (house : Int) - (((floorsL cl house).sum : Nat) : Int) = 0 := by omega
    rw [hr]
    simp [runFn, fn_rests_in, b_rests_in, finFn, evSs, evS, evE, evEs, evB, evF, evT, q, c0, sf, em2, rowM]
  · have T0 : 0 < cl.sum := by
      rcases hT with k | k
      · exact k
      · omega
    obtain ⟨f1, f2, f3, f4⟩ := edge_facts cl house T0 (by omega)
    have hn2 : ((List.range cl.length).filter fun i => decide (0 < rs0 cl house i)).length ≤ cl.length := Nat.le_trans (List.length_filter_le _ _) (by simp)
    have hr : restsIn cl house = sortN (wm (baseR cl house) (tiedOf cl house) (house - (floorsL cl house).sum - (sureOf cl house).length)) := by unfold restsIn; rw [if_neg hz]
    have c1 := rests_c1 (h := h) (callK none T (n - 1)) V house hh T0 (some (.tup ((floorsL cl house).map natM))) (some (.int ((house - (floorsL cl house).sum : Nat) : Int)))
    have c2 := rests_c2 (h := h) (callK none T (n - 1)) V house (some (.tup (cl.map natM))) (some (.int (house : Int))) (some (.tup (cl.map fun c => qM (c * house) (maxN cl.sum)))) (some (.tup ((floorsL cl house).map natM))) (some (.int ((house - (floorsL cl house).sum : Nat) : Int))) (some (.int ((cl.sum : Nat) : Int)))
    have c3 := rests_c3 (h := h) (callK none T (n - 1)) V house (some (.tup (cl.map natM))) (some (.int (house : Int))) (some (.tup (cl.map fun c => qM (c * house) (maxN cl.sum)))) (some (.tup ((floorsL cl house).map natM))) (some (.int ((house - (floorsL cl house).sum : Nat) : Int))) (some (.int ((cl.sum : Nat) : Int))) (some (.lst ((sureOf cl house).map natM)))
    have c4 := rests_c4 (h := h) (callK none T (n - 1)) V house (some (.tup (cl.map natM))) (some (.int (house : Int))) (some (.tup (cl.map fun c => qM (c * house) (maxN cl.sum)))) (some (.int ((house - (floorsL cl house).sum : Nat) : Int))) (some (.int ((cl.sum : Nat) : Int))) (some (.lst ((restsL cl house).map natM))) (some (.int ((edgeOf cl house : Nat) : Int))) (some (.lst ((tiedOf cl house).map natM)))
    have sc := sum_M cl h
    have srt := sortV_nats (restsL cl house)
    have ix := at_back (sortK (restsL cl house)) (house - (floorsL cl house).sum) (by omega) (by rw [len_sortK, rests_len]; omega) h
    have ie : at0 (sortK (restsL cl house)) ((sortK (restsL cl house)).length - (house - (floorsL cl house).sum)) = edgeOf cl house := by rw [len_sortK, rests_len]; rfl
    rw [ie] at ix
    have bl : (baseR cl house).length = cl.length := by unfold baseR; simp
    have tl : (tiedOf cl house).length ≤ cl.length := Nat.le_trans (List.length_filter_le _ _) (by simp)
    have wmr := sp_with_more (tiedOf cl house) (n - 1) (baseR cl house) (house - (floorsL cl house).sum - (sureOf cl house).length) h (by omega) (by omega) (by omega) (fun i hi => by rw [bl]; exact List.mem_range.mp (List.mem_filter.mp hi).1)
    have ne : ∀ r ∈ wm (baseR cl house) (tiedOf cl house) (house - (floorsL cl house).sum - (sureOf cl house).length), r ≠ [] := fun r hr e => by
      have := ((mem_wm _ _ _ r (List.nodup_range.filter _) (fun i hi => by rw [bl]; exact List.mem_range.mp (List.mem_filter.mp hi).1)).mp hr).len
      rw [e, bl] at this
      simp at this
      omega
    have sr := sortV_rows _ ne
    have e5 : ((house - (floorsL cl house).sum : Nat) : Int) - ((sureOf cl house).length : Int) = ((house - (floorsL cl house).sum - (sureOf cl house).length : Nat) : Int) := by omega
    have wmr' : callK none T (n - 1) 71 [.tup ((baseR cl house).map natM), .lst ((tiedOf cl house).map natM), .int ((house - (floorsL cl house).sum - (sureOf cl house).length : Nat) : Int)] h = .ok (.lst ((wm (baseR cl house) (tiedOf cl house) (house - (floorsL cl house).sum - (sureOf cl house).length)).map rowM)) h := wmr
    clear wmr
    have e6 : ¬ (house - (floorsL cl house).sum : Nat) = 0 := by omega
    rw [hr]
    generalize wm (baseR cl house) (tiedOf cl house) (house - (floorsL cl house).sum - (sureOf cl house).length) = W9 at *
    generalize (house - (floorsL cl house).sum - (sureOf cl house).length : Nat) = m9 at *
    generalize (house - (floorsL cl house).sum : Nat) = m8 at *
    simp [runFn, fn_rests_in, b_rests_in, finFn, evSs, evS, evE, evEs, evB, evF, evT, q, c0, c1, c2, c3, c4, sf, sc, em, e6, lstOf, srt, ix, e5, wmr', sr]
end
end G
set_option Elab.async false
set_option linter.all false
set_option maxRecDepth 100000
/-! S13: the law's own rows by rests. -/
namespace G
open PySem MM
def maxK : Nat → List Nat → Nat
  | a, [] => a
  | a, b :: r => maxK (if b > a then b else a) r
theorem maxI_cast : ∀ (l : List Nat) (a : Nat), maxI (a : Int) (l.map fun (k : Nat) => (k : Int)) = ((maxK a l : Nat) : Int)
  | [], _ => rfl
  | b :: r, a => by
    rw [List.map_cons, maxI, maxK, ← maxI_cast r]
    congr 1
    by_cases c : b > a
    · rw [if_pos c, if_pos (by omega)]
    · rw [if_neg c, if_neg (by omega)]
theorem maxK_ge : ∀ (l : List Nat) (a : Nat), a ≤ maxK a l ∧ ∀ x ∈ l, x ≤ maxK a l
  | [], _ => ⟨Nat.le_refl _, fun x hx => by cases hx⟩
  | b :: r, a => by
    obtain ⟨h1, h2⟩ := maxK_ge r (if b > a then b else a)
    have h3 : a ≤ (if b > a then b else a) ∧ b ≤ (if b > a then b else a) := by split <;> omega
    refine ⟨Nat.le_trans h3.1 h1, fun x hx => ?_⟩
    rcases List.mem_cons.mp hx with e | e
    · subst e; exact Nat.le_trans h3.2 h1
    · exact h2 x e
theorem maxK_mem : ∀ (l : List Nat) (a : Nat), maxK a l = a ∨ maxK a l ∈ l
  | [], _ => .inl rfl
  | b :: r, a => by
    rw [maxK]
    rcases maxK_mem r (if b > a then b else a) with e | e
    · split at e
      · rename_i c; rw [if_pos c, e]; exact .inr List.mem_cons_self
      · rename_i c; rw [if_neg c, e]; exact .inl rfl
    · exact .inr (List.mem_cons_of_mem _ e)
def topOf : List Nat → Nat
  | [] => 0
  | a :: l => maxK a l
theorem topOf_ge {l : List Nat} {x : Nat} (h : x ∈ l) : x ≤ topOf l := by
  cases l with
  | nil => cases h
  | cons a l =>
    rcases List.mem_cons.mp h with e | e
    · subst e; exact (maxK_ge l _).1
    · exact (maxK_ge l a).2 x e
theorem topOf_mem {l : List Nat} (h : l ≠ []) : topOf l ∈ l := by
  cases l with
  | nil => exact absurd rfl h
  | cons a l =>
    show maxK a l ∈ a :: l
    rcases maxK_mem l a with e | e
    · rw [e]; exact List.mem_cons_self
    · exact List.mem_cons_of_mem _ e
theorem max_L (l : List Nat) (h : l ≠ []) (H : MH) : biV .maxL [.lst (l.map natM)] H = .ok (.int ((topOf l : Nat) : Int)) H := by
  cases l with
  | nil => exact absurd rfl h
  | cons a l =>
    show (match (some ((a :: l).map natM)).bind intsOf with
      | some (n :: ns) => Res.ok (MV.int (maxI n ns)) H
      | _ => .bad) = _
    rw [natM_cast, Option.bind_some, ints_map]
    show Res.ok (MV.int (maxI (a : Int) (l.map fun (k : Nat) => (k : Int)))) H = _
    rw [maxI_cast]; rfl
section
variable {n : Nat} {cl : List Nat} {house : Nat} {h : MH} {row : List Nat} {rows : List (List Nat)}
def ableR (cl : List Nat) (house : Nat) (row : List Nat) : List Nat := (List.range cl.length).filter fun i => decide (at0 row i = fl0 cl house i) && decide (0 < rs0 cl house i)
def bestR (cl : List Nat) (house : Nat) (row : List Nat) : List Nat := (ableR cl house row).filter fun i => decide (rs0 cl house i = topOf ((ableR cl house row).map (rs0 cl house)))
def rawR (cl : List Nat) (house : Nat) (rows : List (List Nat)) : List (List Nat) := rows.flatMap fun r => (bestR cl house r).map (bump r)
def turnR (cl : List Nat) (house : Nat) (rows : List (List Nat)) : List (List Nat) := sortN (nubN (rawR cl house rows))
def restedL (cl : List Nat) (house : Nat) : Nat → List (List Nat)
  | 0 => [floorsL cl house]
  | k + 1 => turnR cl house (restedL cl house k)
def mkB (cl : List Nat) (house : Nat) (rows : List (List Nat)) (x6 x7 x8 x9 x10 : Option MV) : MEnv := [some (.tup (cl.map natM)), some (.int (house : Int)), some (.int ((cl.sum : Nat) : Int)), some (.tup ((floorsL cl house).map natM)), some (.lst ((restsL cl house).map natM)), some (.lst (rows.map rowM)), x6, x7, x8, x9, x10, none, none]
theorem ableR_lt {i : Nat} (h : i ∈ ableR cl house row) : i < cl.length := List.mem_range.mp (List.mem_filter.mp h).1
theorem law_c2 (G : MM.Callee) (V : ClOk cl) (hr : row.length = cl.length) (x6 x7 x9 x10 : Option MV) : evF G c2__law_rested (mkB cl house rows x6 x7 (some (rowM row)) x9 x10) h = .ok ((ableR cl house row).map natM) h := by
  have few := V.few
  have ev : evI G (.range1 (.bi .len (.cons (.var 0) .nil))) (mkB cl house rows x6 x7 (some (rowM row)) x9 x10) h = .ok ⟨(List.range cl.length).map fun (i : Nat) => MV.int ((0 : Int) + (i : Int)), none⟩ h :=
    r1_ev _ _ _ _ _ cl.length (by simp [evE, evEs, mkB]) (by omega)
  have c := comp_map (G := G) (own := [12]) (tg := .nm 12) (it := .range1 (.bi .len (.cons (.var 0) .nil))) (c := .all (.cons (.val (.cmp .eq (.ix (.var 8) (.var 12)) (.ix (.var 3) (.var 12)))) (.cons (.val (.cmp .gt (.ix (.var 4) (.var 12)) (.int 0))) .nil))) (elt := .var 12) (e := mkB cl house rows x6 x7 (some (rowM row)) x9 x10) (h := h)
    (List.range cl.length) (fun (i : Nat) => MV.int ((0 : Int) + (i : Int))) (fun i => decide (at0 row i = fl0 cl house i) && decide (0 < rs0 cl house i)) natM ev (fun i hi => by
      have hi := List.mem_range.mp hi
      have a1 := at_row (row := row) (show i < row.length by rw [hr]; exact hi)
      have a2 := at_row (row := floorsL cl house) (show i < (floorsL cl house).length by rw [floors_len]; exact hi)
      have a3 := at_row (row := restsL cl house) (show i < (restsL cl house).length by rw [rests_len]; exact hi)
      rw [fl_at cl house i hi] at a2
      rw [rs_at cl house i hi] at a3
      refine ⟨_, rfl, ?_, fun _ => by simp [evE, mkB, wipeM, natM]⟩
      by_cases k1 : at0 row i = fl0 cl house i <;> by_cases k2 : 0 < rs0 cl house i <;> simp [evB, evAll, evE, mkB, wipeM, natM, rowM, a1, a2, a3, k1, k2, Int.ofNat_inj]) (by simp; omega)
  exact c
theorem law_c3 (G : MM.Callee) (V : ClOk cl) (x6 x7 x8 x10 : Option MV) : evF G c3__law_rested (mkB cl house rows x6 x7 x8 (some (.lst ((ableR cl house row).map natM))) x10) h = .ok (((ableR cl house row).map (rs0 cl house)).map natM) h := by
  have few := V.few
  have c := comp_map (G := G) (own := [12]) (tg := .nm 12) (it := .seq (.var 9)) (c := .tt) (elt := .ix (.var 4) (.var 12)) (e := mkB cl house rows x6 x7 x8 (some (.lst ((ableR cl house row).map natM))) x10) (h := h)
    (ableR cl house row) natM (fun _ => true) (fun i => natM (rs0 cl house i)) (by simp [evI, evE, mkB]) (fun i hi => by
      have hi := ableR_lt hi
      have a3 := at_row (row := restsL cl house) (show i < (restsL cl house).length by rw [rests_len]; exact hi)
      rw [rs_at cl house i hi] at a3
      refine ⟨_, rfl, rfl, fun _ => by simp [evE, mkB, wipeM, natM, a3]⟩) (Nat.le_trans (List.length_filter_le _ _) (by simp; omega))
  rw [filter_map_all] at c
  rw [List.map_map]
  exact c
theorem law_c4 (G : MM.Callee) (V : ClOk cl) (hr : row.length = cl.length) (x6 x7 : Option MV) : evF G c4__law_rested (mkB cl house rows x6 x7 (some (rowM row)) (some (.lst ((ableR cl house row).map natM))) (some (.int ((topOf ((ableR cl house row).map (rs0 cl house)) : Nat) : Int)))) h = .ok (((bestR cl house row).map (bump row)).map rowM) h := by
  have few := V.few
  generalize htop : topOf ((ableR cl house row).map (rs0 cl house)) = top at *
  have c := comp_map (G := G) (own := [12]) (tg := .nm 12) (it := .seq (.var 9)) (c := .val (.cmp .eq (.ix (.var 4) (.var 12)) (.var 10))) (elt := .bin .add (.bin .add (.sl (.var 8) .none (.some (.var 12))) (.tup (.cons (.bin .add (.ix (.var 8) (.var 12)) (.int 1)) .nil))) (.sl (.var 8) (.some (.bin .add (.var 12) (.int 1))) .none)) (e := mkB cl house rows x6 x7 (some (rowM row)) (some (.lst ((ableR cl house row).map natM))) (some (.int (top : Int)))) (h := h)
    (ableR cl house row) natM (fun i => decide (rs0 cl house i = top)) (fun i => rowM (bump row i)) (by simp [evI, evE, mkB]) (fun i hi => by
      have hi := ableR_lt hi
      have a1 := at_row (row := row) (show i < row.length by rw [hr]; exact hi)
      have a3 := at_row (row := restsL cl house) (show i < (restsL cl house).length by rw [rests_len]; exact hi)
      rw [rs_at cl house i hi] at a3
      have lt : ((row.map natM).take i).length = i := by simp; omega
      have ld : ((row.map natM).drop (i + 1)).length = row.length - (i + 1) := by simp
      have k1 : lenOk (i + 1) = true := len_ok (by omega)
      have k2 : lenOk (i + 1 + (row.length - (i + 1))) = true := len_ok (by omega)
      have mi : min i row.length = i := by omega
      have bm := bump_M row i (by omega)
      refine ⟨_, rfl, ?_, fun _ => ?_⟩
      · simp [evB, evE, mkB, wipeM, natM, a3]
        omega
      · simp [evE, evEs, evO, mkB, wipeM, natM, rowM, a1, cut_to, cut_from1, bm, k1, k2, mi]) (Nat.le_trans (List.length_filter_le _ _) (by simp; omega))
  have e : (bestR cl house row).map (bump row) = ((ableR cl house row).filter fun i => decide (rs0 cl house i = top)).map (bump row) := by unfold bestR; rw [htop]
  rw [e, List.map_map]
  exact c
theorem rested_loop (V : ClOk cl) (hV : ∀ r ∈ rows, r.length = cl.length ∧ ableR cl house r ≠ []) (hr : rows.length ≤ 500) (G : MM.Callee) (x6 x8 x9 x10 : Option MV) :
    ∃ y8 y9 y10, evS none G l0__law_rested (mkB cl house rows x6 (some (.lst [])) x8 x9 x10) h = .ok (.nx, mkB cl house rows x6 (some (.lst ((rawR cl house rows).map rowM))) y8 y9 y10) h := by
  have few := V.few
  obtain ⟨e2, h2, q1, y8, y9, y10, q2, q3⟩ := for_inv (L := none) (G := G) (t := .nm 8) (it := .seq (.var 5)) (b := b0__law_rested) (e := mkB cl house rows x6 (some (.lst [])) x8 x9 x10) (h := h) rows rowM
    (fun k e H => ∃ y8 y9 y10, e = mkB cl house rows x6 (some (.lst ((rawR cl house (rows.take k)).map rowM))) y8 y9 y10 ∧ H = h) (by simp [evI, evE, mkB])
    ⟨x8, x9, x10, rfl, rfl⟩ (fun k row e H hx ⟨y8, y9, y10, he, hH⟩ => by
      obtain ⟨v1, v2⟩ := hV row (List.mem_of_getElem? hx)
      subst he
      subst hH
      have c2 := law_c2 (rows := rows) (h := H) (house := house) G V v1 x6 (some (.lst ((rawR cl house (rows.take k)).map rowM))) y9 y10
      have c3 := law_c3 (rows := rows) (h := H) (house := house) (row := row) G V x6 (some (.lst ((rawR cl house (rows.take k)).map rowM))) (some (rowM row)) y10
      have c4 := law_c4 (rows := rows) (h := H) (house := house) G V v1 x6 (some (.lst ((rawR cl house (rows.take k)).map rowM)))
      have mx := max_L ((ableR cl house row).map (rs0 cl house)) (fun e => v2 (List.map_eq_nil_iff.mp e)) H
      have hlen : ∀ l : List (List Nat), (rawR cl house l).length ≤ l.length * 100 := fun l => flatMap_len _ 100 l fun r _ => by
        rw [List.length_map]
        exact Nat.le_trans (List.length_filter_le _ _) (Nat.le_trans (List.length_filter_le _ _) (by simp; omega))
      have l1 := hlen (rows.take k)
      have l2 : ((bestR cl house row).map (bump row)).length ≤ 100 := by
        rw [List.length_map]
        exact Nat.le_trans (List.length_filter_le _ _) (Nat.le_trans (List.length_filter_le _ _) (by simp; omega))
      have l3 : (rows.take k).length ≤ rows.length := by rw [List.length_take]; omega
      refine ⟨_, _, _, rfl, ?_, some (rowM row), some (.lst ((ableR cl house row).map natM)), some (.int ((topOf ((ableR cl house row).map (rs0 cl house)) : Nat) : Int)), rfl, rfl⟩
      have e1 : rawR cl house (rows.take (k + 1)) = rawR cl house (rows.take k) ++ (bestR cl house row).map (bump row) := by
        rw [take_succ_get hx]
        unfold rawR
        rw [List.flatMap_append, List.flatMap_cons, List.flatMap_nil, List.append_nil]
      rw [e1, List.map_append]
      have l4 : lenOk ((rawR cl house (rows.take k)).length + ((bestR cl house row).map (bump row)).length) = true := len_ok (by omega)
      generalize rawR cl house (rows.take k) = A at *
      generalize (bestR cl house row).map (bump row) = B at *
      generalize topOf ((ableR cl house row).map (rs0 cl house)) = top at *
      generalize (ableR cl house row).map (rs0 cl house) = D at *
      unfold mkB at c2 c3 c4 ⊢
      simp [b0__law_rested, evSs, evS, evE, evEs, evF, evT, c2, c3, c4, mx, l4])
  rw [List.take_length] at q2
  subst q2
  subst q3
  exact ⟨y8, y9, y10, q1⟩
end
end G
set_option Elab.async false
set_option linter.all false
set_option maxRecDepth 100000
/-! S14: the law's own rows by rests, put together; they are the program's. -/
namespace G
open PySem MM
section
variable {n : Nat} {cl : List Nat} {house : Nat} {h : MH} {row : List Nat} {rows : List (List Nat)}
theorem best_next (hT : 0 < cl.sum) {s : List Nat} (R : RightR cl house s) {i : Nat} : i ∈ bestR cl house s ↔ Next (actR cl house) (gtR cl house) cl.length (fun i => fl0 cl house i + 1) s i := by
  have ha : ∀ i, i ∈ ableR cl house s ↔ i < cl.length ∧ actR cl house i = true ∧ at0 s i < fl0 cl house i + 1 := fun i => by
    unfold ableR actR
    rw [List.mem_filter, List.mem_range, Bool.and_eq_true, decide_eq_true_eq, decide_eq_true_eq]
    constructor
    · rintro ⟨h1, h2, h3⟩; exact ⟨h1, h3, by omega⟩
    · rintro ⟨h1, h2, h3⟩
      have := R.low i h1
      exact ⟨h1, by omega, h2⟩
  have hf : ∀ i, i ∈ ableR cl house s → at0 s i = fl0 cl house i := fun i hi => by
    obtain ⟨h1, h2, h3⟩ := (ha i).mp hi
    have := R.low i h1
    omega
  unfold bestR
  rw [List.mem_filter, decide_eq_true_eq]
  constructor
  · rintro ⟨h1, h2⟩
    obtain ⟨g1, g2, g3⟩ := (ha i).mp h1
    refine ⟨g1, g2, g3, fun j hj aj bj => ?_⟩
    have mj := (ha j).mpr ⟨hj, aj, bj⟩
    rw [gtR_fl (hf j mj) (hf i h1)]
    have := topOf_ge (List.mem_map.mpr ⟨j, mj, rfl⟩ : rs0 cl house j ∈ (ableR cl house s).map (rs0 cl house))
    omega
  · rintro ⟨g1, g2, g3, g4⟩
    have mi := (ha i).mpr ⟨g1, g2, g3⟩
    refine ⟨mi, ?_⟩
    have h1 := topOf_ge (List.mem_map.mpr ⟨i, mi, rfl⟩ : rs0 cl house i ∈ (ableR cl house s).map (rs0 cl house))
    have h2 := topOf_mem (l := (ableR cl house s).map (rs0 cl house)) (fun e => by have := List.map_eq_nil_iff.mp e; rw [this] at mi; cases mi)
    obtain ⟨j, mj, ej⟩ := List.mem_map.mp h2
    obtain ⟨q1, q2, q3⟩ := (ha j).mp mj
    have := g4 j q1 q2 q3
    rw [gtR_fl (hf j mj) (hf i mi)] at this
    omega
theorem bestR_nodup (r : List Nat) : (bestR cl house r).Nodup := (List.nodup_range.filter _).filter _
theorem rested_mem (hT : 0 < cl.sum) (t : Nat) : ∀ r, r ∈ restedL cl house t ↔ RightR cl house r ∧ r.sum = (floorsL cl house).sum + t := by
  refine level_abs (kordR cl house hT) (fun i _ _ => by omega) (lows := floorsL cl house) (floors_len cl house) (fun i hi => fl_at cl house i hi) (turnR cl house) (restedL cl house) rfl (fun _ => rfl) (fun X r hX => ?_) t
  unfold turnR rawR
  rw [mem_sortN, mem_nubN, List.mem_flatMap]
  constructor
  · rintro ⟨s, hs, hr⟩
    obtain ⟨i, hi, rfl⟩ := List.mem_map.mp hr
    exact ⟨s, hs, i, (best_next hT (hX s hs)).mp hi, rfl⟩
  · rintro ⟨s, hs, i, N, rfl⟩
    exact ⟨s, hs, List.mem_map.mpr ⟨i, (best_next hT (hX s hs)).mpr N, rfl⟩⟩
theorem rested_asc : ∀ t : Nat, Asc (restedL cl house t)
  | 0 => List.pairwise_singleton _ _
  | t + 1 => asc_sortN _ (nub_nodup _)
theorem asc_nodup {l : List (List Nat)} (h : Asc l) : l.Nodup := h.imp fun {a b} hab e => by subst e; rw [lexN_irr] at hab; cases hab
theorem rested_few (hT : 0 < cl.sum) (h6 : cl.length ≤ 6) (t : Nat) : (restedL cl house t).length ≤ 20 ∧ (rawR cl house (restedL cl house t)).length < 64 :=
  few_abs (kordR cl house hT) h6 (restedL cl house t) (asc_nodup (rested_asc t)) _ (fun r hr => (rested_mem hT t r).mp hr) (bestR cl house) bestR_nodup (fun r hr i hi => (best_next hT ((rested_mem hT t r).mp hr).1).mp hi)
theorem rested_eq (hT : 0 < cl.sum) : restedL cl house (house - (floorsL cl house).sum) = restsIn cl house := by
  obtain ⟨s1, s2⟩ := restsIn_spec cl house hT
  have hle := (rests_sum cl house hT).1
  refine asc_ext _ _ (rested_asc _) s1 fun r => ?_
  rw [rested_mem hT, s2, show (floorsL cl house).sum + (house - (floorsL cl house).sum) = house by omega]
theorem able_ne (hT : 0 < cl.sum) {t : Nat} (ht : t < house - (floorsL cl house).sum) {r : List Nat} (R : RightR cl house r) (hs : r.sum = (floorsL cl house).sum + t) : ableR cl house r ≠ [] := fun e => by
  obtain ⟨f1, _, _, _⟩ := edge_facts cl house hT (by omega)
  have hr : ∀ i, i < cl.length → fl0 cl house i ≤ at0 r i ∧ at0 r i ≤ fl0 cl house i + 1 := fun i hi => by
    refine ⟨R.low i hi, ?_⟩
    cases c : actR cl house i with
    | true => exact R.high i hi c
    | false => rw [R.off i hi c]; omega
  have ups : ((List.range cl.length).filter fun i => decide (at0 r i = fl0 cl house i + 1)).length = t := by
    have e := sum_range_map (fl0 cl house) (fun i => if at0 r i = fl0 cl house i + 1 then fl0 cl house i + 1 else fl0 cl house i) (fun i => decide (at0 r i = fl0 cl house i + 1)) (fun i hi => by rw [decide_eq_true_eq] at hi; rw [if_pos hi]) (fun i hi => by rw [decide_eq_false_iff_not] at hi; rw [if_neg hi]) (List.range cl.length)
    have e3 : ((List.range cl.length).map fun i => if at0 r i = fl0 cl house i + 1 then fl0 cl house i + 1 else fl0 cl house i) = (List.range cl.length).map (at0 r) := by
      apply List.map_congr_left
      intro i hi
      have := hr i (List.mem_range.mp hi)
      show (if at0 r i = fl0 cl house i + 1 then fl0 cl house i + 1 else fl0 cl house i) = at0 r i
      split <;> omega
    have e4 : ((List.range cl.length).map (at0 r)).sum = r.sum := by rw [← R.len, range_at]
    rw [e3, e4] at e
    have e5 : ((List.range cl.length).map (fl0 cl house)).sum = (floorsL cl house).sum := by rw [floors_range]
    omega
  have := filter_sub_len cl.length (fun i => decide (0 < rs0 cl house i)) (fun i => decide (at0 r i = fl0 cl house i + 1)) (fun i hi hq => by
    rw [decide_eq_true_eq] at hq
    refine decide_eq_true (Classical.byContradiction fun c => ?_)
    have : i ∈ ableR cl house r := List.mem_filter.mpr ⟨List.mem_range.mpr hi, by
      have := hr i hi
      rw [Bool.and_eq_true, decide_eq_true_eq, decide_eq_true_eq]
      exact ⟨by omega, hq⟩⟩
    rw [e] at this
    cases this)
  omega
theorem rested_turn (V : ClOk cl) (hV : ∀ r ∈ rows, r.length = cl.length ∧ ableR cl house r ≠ []) (h0 : 0 < cl.length) (hr : rows.length ≤ 500) (h64 : (rawR cl house rows).length < 64) (G : MM.Callee) (x6 x7 x8 x9 x10 : Option MV) :
    ∃ y7 y8 y9 y10, evSs none G b1__law_rested (mkB cl house rows x6 x7 x8 x9 x10) h = .ok (.nx, mkB cl house (turnR cl house rows) x6 y7 y8 y9 y10) h := by
  obtain ⟨y8, y9, y10, lp⟩ := rested_loop (h := h) V hV hr G x6 x8 x9 x10
  have ss := sortSetV_rows (rawR cl house rows) cl.length h0 (fun r hr => by
    obtain ⟨s, h1, h2⟩ := List.mem_flatMap.mp hr
    obtain ⟨i, _, rfl⟩ := List.mem_map.mp h2
    rw [len_bump]; exact (hV s h1).1) h64
  refine ⟨some (.lst ((rawR cl house rows).map rowM)), y8, y9, y10, ?_⟩
  unfold turnR
  unfold mkB at lp ⊢
  simp [b1__law_rested, evSs, evS, evE, evF, evEs, evT, lp, lstOf, ss]
theorem sp_law_rested (hn : 1 ≤ n) (V : ClOk cl) (h0 : 0 < cl.length) (h6 : cl.length ≤ 6) (hT : 0 < cl.sum) (hh : house ≤ 10 ^ 6) : callK none T n 90 [.tup (cl.map natM), .int (house : Int)] h = .ok (.lst ((restsIn cl house).map rowM)) h := by
  rw [call_at T__law_rested (by omega)]
  obtain ⟨hle, _⟩ := rests_sum cl house hT
  have few := V.few
  have tot := V.tot
  have c0 : evF (callK none T (n - 1)) c0__law_rested [some (.tup (cl.map natM)), some (.int (house : Int)), some (.int ((cl.sum : Nat) : Int)), none, none, none, none, none, none, none, none, none, none] h = .ok ((floorsL cl house).map natM) h := by
    have c := comp_map (G := callK none T (n - 1)) (own := [11]) (tg := .nm 11) (it := .seq (.var 0)) (c := .tt) (elt := .bin .fdiv (.bin .mul (.var 11) (.var 1)) (.var 2)) (e := [some (.tup (cl.map natM)), some (.int (house : Int)), some (.int ((cl.sum : Nat) : Int)), none, none, none, none, none, none, none, none, none, none]) (h := h)
      cl natM (fun _ => true) (fun c => natM (c * house / cl.sum)) (by simp [evI, evE]) (fun c hc => by
        have m := mul_claim (V.le c hc) hh
        have d : divOk ((c : Int) * (house : Int)) (cl.sum : Int) = true := div_ok (by omega) (sm_of 30 tot (by omega))
        refine ⟨_, rfl, rfl, fun _ => ?_⟩
        simp [evE, evEs, wipeM, natM, m, d]) (by omega)
    rw [filter_map_all] at c
    unfold floorsL
    rw [List.map_map]
    exact c
  have c1 : evF (callK none T (n - 1)) c1__law_rested [some (.tup (cl.map natM)), some (.int (house : Int)), some (.int ((cl.sum : Nat) : Int)), none, none, none, none, none, none, none, none, none, none] h = .ok ((restsL cl house).map natM) h := by
    have c := comp_map (G := callK none T (n - 1)) (own := [11]) (tg := .nm 11) (it := .seq (.var 0)) (c := .tt) (elt := .bin .mod (.bi .toInt (.cons (.bin .mul (.var 11) (.var 1)) .nil)) (.var 2)) (e := [some (.tup (cl.map natM)), some (.int (house : Int)), some (.int ((cl.sum : Nat) : Int)), none, none, none, none, none, none, none, none, none, none]) (h := h)
      cl natM (fun _ => true) (fun c => natM (c * house % cl.sum)) (by simp [evI, evE]) (fun c hc => by
        have m := mul_claim (V.le c hc) hh
        refine ⟨_, rfl, rfl, fun _ => ?_⟩
        simp [evE, evEs, wipeM, natM, m, hT]) (by omega)
    rw [filter_map_all] at c
    unfold restsL
    rw [List.map_map]
    exact c
  have sc := sum_M cl h
  have sf := sum_M (floorsL cl house) h
  have ev : evI (callK none T (n - 1)) (.range1 (.bin .sub (.var 1) (.bi .sum (.cons (.var 3) .nil)))) (mkB cl house [floorsL cl house] none none none none none) h = .ok ⟨(List.range (house - (floorsL cl house).sum)).map fun (i : Nat) => MV.int ((0 : Int) + (i : Int)), none⟩ h := by
    refine r1_ev _ _ _ _ _ _ ?_ (by omega)
    have e : (house : Int) - (((floorsL cl house).sum : Nat) : Int) = ((house - (floorsL cl house).sum : Nat) : Int) := by omega
    generalize (house - (floorsL cl house).sum : Nat) = k at *
    simp [evE, evEs, mkB, sf, e]
  obtain ⟨e2, h2, q1, y6, y7, y8, y9, y10, q2, q3⟩ := for_inv (L := none) (G := callK none T (n - 1)) (t := .nm 6) (it := .range1 (.bin .sub (.var 1) (.bi .sum (.cons (.var 3) .nil)))) (b := b1__law_rested) (e := mkB cl house [floorsL cl house] none none none none none) (h := h) (List.range (house - (floorsL cl house).sum)) (fun (i : Nat) => MV.int ((0 : Int) + (i : Int)))
    (fun t e H => ∃ y6 y7 y8 y9 y10, e = mkB cl house (restedL cl house t) y6 y7 y8 y9 y10 ∧ H = h) ev
    ⟨none, none, none, none, none, rfl, rfl⟩ (fun t x e H hx ⟨y6, y7, y8, y9, y10, he, hH⟩ => by
      obtain ⟨rfl, ht⟩ := range_get hx
      subst he
      subst hH
      obtain ⟨f1, f2⟩ := rested_few (house := house) hT h6 x
      obtain ⟨z7, z8, z9, z10, g⟩ := rested_turn (h := H) (house := house) V (fun r hr => by
        obtain ⟨g1, g2⟩ := (rested_mem hT x r).mp hr
        exact ⟨g1.len, able_ne hT ht g1 g2⟩) h0 (by omega) f2 (callK none T (n - 1)) (some (MV.int ((0 : Int) + (x : Int)))) y7 y8 y9 y10
      exact ⟨_, _, _, rfl, g, _, z7, z8, z9, z10, rfl, rfl⟩)
  rw [List.length_range] at q2
  subst q2
  subst q3
  rw [rested_eq hT] at q1
  have q1' : evS none (callK none T (n - 1)) l1__law_rested (mkB cl house [floorsL cl house] none none none none none) h2 = .ok (.nx, mkB cl house (restsIn cl house) y6 y7 y8 y9 y10) h2 := q1
  unfold mkB rowM at q1'
  have e3 : (restsIn cl house).map (fun r => MV.tup (r.map natM)) = (restsIn cl house).map rowM := rfl
  rw [e3] at q1'
  simp only [List.map_cons, List.map_nil] at q1'
  simp [runFn, fn__law_rested, b__law_rested, finFn, evSs, evS, evE, evEs, evF, evT, evTs, sc, c0, c1, q1']
end
end G
set_option Elab.async false
set_option linter.all false
set_option maxRecDepth 100000
/-! P3: what runs with fuel runs without. -/
namespace MM
open PySem PySem.Spec PyProof.Rows L2
def Le {α : Type} (r r' : Res α) : Prop := r ≠ .bad → r' = r
theorem Le.refl {α : Type} (r : Res α) : Le r r := fun _ => rfl
theorem Le.bad {α : Type} (r : Res α) : Le .bad r := fun h => absurd rfl h
theorem le_bind {α β : Type} {r r' : Res α} {k k' : α → MH → Res β} (h : Le r r') (hk : ∀ a h, Le (k a h) (k' a h)) : Le (r.bind k) (r'.bind k') := by
  intro hb
  cases r with
  | bad => exact absurd rfl hb
  | exc x f h1 => rw [h (fun z => nomatch z)]; rfl
  | ok a h1 =>
    rw [h (fun z => nomatch z)]
    exact hk a h1 hb
theorem le_nox {α : Type} {r r' : Res α} (h : Le r r') : Le r.nox r'.nox := by
  intro hb
  cases r with
  | bad => exact absurd rfl hb
  | exc x f h1 => exact absurd rfl hb
  | ok a h1 => rw [h (fun z => nomatch z)]
theorem le_comp {tg tg' : MV → MEnv → MH → Res MEnv} {c c' : MEnv → MH → Res Bool} {i i' : MEnv → MH → Res (List MV)} {e : MEnv} {stay : MH → Bool} (h1 : ∀ v e h, Le (tg v e h) (tg' v e h)) (h2 : ∀ e h, Le (c e h) (c' e h)) (h3 : ∀ e h, Le (i e h) (i' e h)) :
    ∀ (xs : List MV) (h : MH), Le (compL2 tg c i e stay xs h) (compL2 tg' c' i' e stay xs h)
  | [], h => Le.refl _
  | x :: xs, h => by
    rw [compL2_cons, compL2_cons]
    refine le_bind (h1 _ _ _) fun e1 h1' => le_bind (h2 _ _) fun b h2' => ?_
    cases b with
    | true =>
      simp only [if_true]
      refine le_bind (h3 _ _) fun ws h3' => ?_
      cases stay h3' with
      | true => exact le_bind (le_comp h1 h2 h3 xs h3') fun _ _ => Le.refl _
      | false => exact Le.refl _
    | false =>
      simp only [Bool.false_eq_true, if_false]
      cases stay h2' with
      | true => exact le_comp h1 h2 h3 xs h2'
      | false => exact Le.refl _
theorem le_for {tg tg' : MV → MEnv → MH → Res MEnv} {b b' : MEnv → MH → Res (Fl × MEnv)} {stay : MH → Bool} (h1 : ∀ v e h, Le (tg v e h) (tg' v e h)) (h2 : ∀ e h, Le (b e h) (b' e h)) :
    ∀ (xs : List MV) (e : MEnv) (h : MH), Le (forL tg b stay xs e h) (forL tg' b' stay xs e h)
  | [], e, h => Le.refl _
  | x :: xs, e, h => by
    rw [forL_cons, forL_cons]
    refine le_bind (le_nox (h1 _ _ _)) fun e1 h1' => le_bind (h2 _ _) fun fe h2' => ?_
    obtain ⟨f, e2⟩ := fe
    cases f with
    | nx =>
      dsimp only
      cases stay h2' with
      | true => exact le_for h1 h2 xs e2 h2'
      | false => exact Le.refl _
    | ct =>
      dsimp only
      cases stay h2' with
      | true => exact le_for h1 h2 xs e2 h2'
      | false => exact Le.refl _
    | bk => exact Le.refl _
    | rt v => exact Le.refl _
theorem le_whlN {c c' : MEnv → MH → Res Bool} {b b' : MEnv → MH → Res (Fl × MEnv)} (h1 : ∀ e h, Le (c e h) (c' e h)) (h2 : ∀ e h, Le (b e h) (b' e h)) : ∀ (n : Nat) (e : MEnv) (h : MH), Le (whlN c b n e h) (whlN c' b' n e h)
  | 0, e, h => Le.refl _
  | n + 1, e, h => by
    simp only [whlN]
    refine le_bind (h1 _ _) fun k h1' => ?_
    cases k with
    | false => exact Le.refl _
    | true =>
      simp only [if_true]
      refine le_bind (h2 _ _) fun fe h2' => ?_
      obtain ⟨f, e2⟩ := fe
      cases f with
      | nx => exact le_whlN h1 h2 n e2 h2'
      | ct => exact le_whlN h1 h2 n e2 h2'
      | bk => exact Le.refl _
      | rt v => exact Le.refl _
theorem le_whl {c c' : MEnv → MH → Res Bool} {b b' : MEnv → MH → Res (Fl × MEnv)} (h1 : ∀ e h, Le (c e h) (c' e h)) (h2 : ∀ e h, Le (b e h) (b' e h)) (n : Nat) (e : MEnv) (h : MH) : Le (whl (some n) c b e h) (whl none c' b' e h) := fun hb =>
  whl_eq n (le_whlN h1 h2 n e h hb) hb
theorem le_whl0 {c c' : MEnv → MH → Res Bool} {b b' : MEnv → MH → Res (Fl × MEnv)} (h1 : ∀ e h, Le (c e h) (c' e h)) (h2 : ∀ e h, Le (b e h) (b' e h)) (e : MEnv) (h : MH) : Le (whl none c b e h) (whl none c' b' e h) := fun hb => by
  have hb' : whlF c b e h ≠ .bad := hb
  show whlF c' b' e h = whlF c b e h
  by_cases x : ∃ n, whlN c b n e h ≠ .bad
  · obtain ⟨n, hn⟩ := x
    rw [whlF_eq rfl hn]
    have q := le_whlN h1 h2 n e h hn
    exact whlF_eq q (by rw [← q]; rw [q]; exact hn)
  · exact absurd (by unfold whlF; rw [dif_neg x]) hb'
section
variable {G G' : Callee} (hG : ∀ f vs h, Le (G f vs h) (G' f vs h))
include hG
mutual
theorem evE_le : ∀ (m : ME) (e : MEnv) (h : MH), Le (evE G m e h) (evE G' m e h)
  | .var i, e, h => Le.refl _
  | .int i, e, h => Le.refl _
  | .bl i, e, h => Le.refl _
  | .non, e, h => Le.refl _
  | .str i, e, h => Le.refl _
  | .glb x v, e, h => Le.refl _
  | .bin op a b, e, h => le_bind (evE_le a e h) fun x h1 => le_bind (evE_le b e h1) fun y h2 => Le.refl _
  | .neg a, e, h => le_bind (evE_le a e h) fun x h1 => Le.refl _
  | .cmp op a b, e, h => le_bind (evE_le a e h) fun x h1 => le_bind (evE_le b e h1) fun y h2 => Le.refl _
  | .cmp2 o1 o2 a b c, e, h => le_bind (evE_le a e h) fun x h1 => le_bind (evE_le b e h1) fun y h2 => le_bind (Le.refl _) fun k h3 => by
    cases k with
    | bl k =>
      cases k with
      | true => exact le_bind (evE_le c e h3) fun z h4 => Le.refl _
      | false => exact Le.refl _
    | _ => exact Le.refl _
  | .isN a, e, h => le_bind (evE_le a e h) fun x h1 => Le.refl _
  | .notN a, e, h => le_bind (evE_le a e h) fun x h1 => Le.refl _
  | .isB k a, e, h => le_bind (evE_le a e h) fun x h1 => Le.refl _
  | .notB k a, e, h => le_bind (evE_le a e h) fun x h1 => Le.refl _
  | .not_ a, e, h => le_bind (evE_le a e h) fun x h1 => Le.refl _
  | .and_ es, e, h => evAnd_le es e h
  | .or_ es, e, h => evOr_le es e h
  | .ite c a b, e, h => le_bind (evB_le c e h) fun k h1 => by
    cases k with
    | true => exact evE_le a e h1
    | false => exact evE_le b e h1
  | .tup es, e, h => le_bind (evEs_le es e h) fun x h1 => Le.refl _
  | .ix a i, e, h => le_bind (evE_le a e h) fun x h1 => le_bind (evE_le i e h1) fun y h2 => Le.refl _
  | .sl a lo hi, e, h => le_bind (evE_le a e h) fun x h1 => le_bind (evO_le lo e h1) fun y h2 => le_bind (evO_le hi e h2) fun z h3 => Le.refl _
  | .call f es, e, h => le_bind (evEs_le es e h) fun x h1 => hG f x h1
  | .bi b es, e, h => le_bind (evEs_le es e h) fun x h1 => Le.refl _
  | .isi t a, e, h => le_bind (evE_le a e h) fun x h1 => Le.refl _
  | .fr f, e, h => le_bind (evF_le f e h) fun x h1 => Le.refl _
  | .box f, e, h => le_bind (evF_le f e h) fun x h1 => Le.refl _
  | .append o a, e, h => le_bind (evE_le o e h) fun x h1 => by
    cases derf h1 x with
    | lst _ => exact le_bind (evE_le a e h1) fun _ _ => Le.refl _
    | _ => exact Le.refl _
  | .pop o, e, h => le_bind (evE_le o e h) fun x h1 => Le.refl _
  | .repr a, e, h => le_bind (evE_le a e h) fun x h1 => Le.refl _
theorem evEs_le : ∀ (m : MEs) (e : MEnv) (h : MH), Le (evEs G m e h) (evEs G' m e h)
  | .nil, e, h => Le.refl _
  | .cons a r, e, h => le_bind (evE_le a e h) fun x h1 => le_bind (evEs_le r e h1) fun _ _ => Le.refl _
theorem evAnd_le : ∀ (m : MEs) (e : MEnv) (h : MH), Le (evAnd G m e h) (evAnd G' m e h)
  | .nil, e, h => Le.refl _
  | .cons a .nil, e, h => le_bind (evE_le a e h) fun x h1 => Le.refl _
  | .cons a (.cons b r), e, h => le_bind (evE_le a e h) fun x h1 => by
    cases truth h1 x with
    | none => exact Le.refl _
    | some k =>
      cases k with
      | true => exact evAnd_le (.cons b r) e h1
      | false => exact Le.refl _
theorem evOr_le : ∀ (m : MEs) (e : MEnv) (h : MH), Le (evOr G m e h) (evOr G' m e h)
  | .nil, e, h => Le.refl _
  | .cons a .nil, e, h => le_bind (evE_le a e h) fun x h1 => Le.refl _
  | .cons a (.cons b r), e, h => le_bind (evE_le a e h) fun x h1 => by
    cases truth h1 x with
    | none => exact Le.refl _
    | some k =>
      cases k with
      | false => exact evOr_le (.cons b r) e h1
      | true => exact Le.refl _
theorem evB_le : ∀ (m : MB) (e : MEnv) (h : MH), Le (evB G m e h) (evB G' m e h)
  | .val m, e, h => le_bind (evE_le m e h) fun x h1 => Le.refl _
  | .not_ a, e, h => le_bind (evB_le a e h) fun x h1 => Le.refl _
  | .all bs, e, h => evAll_le bs e h
  | .any bs, e, h => evAny_le bs e h
  | .tt, e, h => Le.refl _
theorem evAll_le : ∀ (m : MBs) (e : MEnv) (h : MH), Le (evAll G m e h) (evAll G' m e h)
  | .nil, e, h => Le.refl _
  | .cons a r, e, h => le_bind (evB_le a e h) fun k h1 => by
    cases k with
    | true => exact evAll_le r e h1
    | false => exact Le.refl _
theorem evAny_le : ∀ (m : MBs) (e : MEnv) (h : MH), Le (evAny G m e h) (evAny G' m e h)
  | .nil, e, h => Le.refl _
  | .cons a r, e, h => le_bind (evB_le a e h) fun k h1 => by
    cases k with
    | false => exact evAny_le r e h1
    | true => exact Le.refl _
theorem evO_le : ∀ (m : MO) (e : MEnv) (h : MH), Le (evO G m e h) (evO G' m e h)
  | .none, e, h => Le.refl _
  | .some a, e, h => le_bind (evE_le a e h) fun x h1 => Le.refl _
theorem evF_le : ∀ (m : MF) (e : MEnv) (h : MH), Le (evF G m e h) (evF G' m e h)
  | .disp es, e, h => le_bind (evEs_le es e h) fun x h1 => Le.refl _
  | .toList a, e, h => le_bind (evE_le a e h) fun x h1 => Le.refl _
  | .cat a b, e, h => le_bind (evE_le a e h) fun x h1 => le_bind (evE_le b e h1) fun x h1 => Le.refl _
  | .rep a b, e, h => le_bind (evE_le a e h) fun x h1 => le_bind (evE_le b e h1) fun x h1 => Le.refl _
  | .cut a lo hi, e, h => le_bind (evE_le a e h) fun x h1 => le_bind (evO_le lo e h1) fun y h2 => le_bind (evO_le hi e h2) fun z h3 => Le.refl _
  | .sorted a, e, h => le_bind (evE_le a e h) fun x h1 => Le.refl _
  | .sortedSet a, e, h => le_bind (evE_le a e h) fun x h1 => Le.refl _
  | .comp own tg it c elt, e, h => le_bind (evI_le it e h) fun s h1 => le_nox (le_bind (le_comp (evT_le tg) (evB_le c) (fun e h => le_bind (evE_le elt e h) fun _ _ => Le.refl _) _ _) fun _ _ => Le.refl _)
  | .comp2 own own1 tg it c tg1 it1 c1 elt, e, h => le_bind (evI_le it e h) fun s h1 => le_nox (le_bind (le_comp (evT_le tg) (evB_le c) (fun e h => le_bind (evI_le it1 e h) fun s1 h1 => le_comp (evT_le tg1) (evB_le c1) (fun e h => le_bind (evE_le elt e h) fun _ _ => Le.refl _) _ _) _ _) fun _ _ => Le.refl _)
theorem evI_le : ∀ (m : MI) (e : MEnv) (h : MH), Le (evI G m e h) (evI G' m e h)
  | .seq a, e, h => le_bind (evE_le a e h) fun x h1 => Le.refl _
  | .range1 a, e, h => le_bind (evE_le a e h) fun x h1 => Le.refl _
  | .range2 a b, e, h => le_bind (evE_le a e h) fun x h1 => le_bind (evE_le b e h1) fun x h1 => Le.refl _
  | .enum a, e, h => le_bind (evE_le a e h) fun x h1 => Le.refl _
  | .zip2 a b, e, h => le_bind (evE_le a e h) fun x h1 => le_bind (evE_le b e h1) fun x h1 => Le.refl _
  | .zip3 a b c, e, h => le_bind (evE_le a e h) fun x h1 => le_bind (evE_le b e h1) fun x h1 => le_bind (evE_le c e h1) fun x h1 => Le.refl _
  | .enumZip2 a b, e, h => le_bind (evE_le a e h) fun x h1 => le_bind (evE_le b e h1) fun x h1 => Le.refl _
  | .enumZip3 a b c, e, h => le_bind (evE_le a e h) fun x h1 => le_bind (evE_le b e h1) fun x h1 => le_bind (evE_le c e h1) fun x h1 => Le.refl _
theorem evT_le : ∀ (m : MT) (v : MV) (e : MEnv) (h : MH), Le (evT G m v e h) (evT G' m v e h)
  | .nm i, v, e, h => Le.refl _
  | .tup ts, v, e, h => by
    cases v with
    | tup vs => exact evTs_le ts vs e h
    | _ => exact Le.refl _
  | .ix a i, v, e, h => le_nox (le_bind (evE_le a e h) fun o h1 => le_bind (evE_le i e h1) fun j h2 => Le.refl _)
theorem evTs_le : ∀ (m : MTs) (v : List MV) (e : MEnv) (h : MH), Le (evTs G m v e h) (evTs G' m v e h)
  | .nil, [], e, h => Le.refl _
  | .cons t ts, v :: vs, e, h => le_bind (evT_le t v e h) fun e1 h1 => evTs_le ts vs e1 h1
  | .nil, _ :: _, e, h => Le.refl _
  | .cons _ _, [], e, h => Le.refl _
end
variable {L L' : Option Nat} (hW : ∀ (c c' : MEnv → MH → Res Bool) (b b' : MEnv → MH → Res (Fl × MEnv)), (∀ e h, Le (c e h) (c' e h)) → (∀ e h, Le (b e h) (b' e h)) → ∀ e h, Le (whl L c b e h) (whl L' c' b' e h))
include hW
mutual
theorem evS_le : ∀ (m : MS) (e : MEnv) (h : MH), Le (evS L G m e h) (evS L' G' m e h)
  | .expr a, e, h => le_bind (evE_le hG a e h) fun x h1 => Le.refl _
  | .asg t a, e, h => le_bind (evE_le hG a e h) fun x h1 => le_bind (le_nox (evT_le hG t x e h1)) fun _ _ => Le.refl _
  | .aug i op a, e, h => by
    simp only [evS]
    cases e[i]? with
    | none => exact Le.refl _
    | some x =>
      cases x with
      | none => exact Le.refl _
      | some x => exact le_bind (evE_le hG a e h) fun y h1 => Le.refl _
  | .augIx a i op b, e, h => le_bind (evE_le hG a e h) fun o h1 => le_bind (evE_le hG i e h1) fun j h2 => by
    cases o with
    | ref k => exact le_bind (Le.refl _) fun x h3 => le_bind (evE_le hG b e h3) fun y h4 => Le.refl _
    | _ => exact Le.refl _
  | .ret a, e, h => le_bind (evE_le hG a e h) fun x h1 => Le.refl _
  | .retN, e, h => Le.refl _
  | .ifS c a b, e, h => le_bind (evB_le hG c e h) fun k h1 => by
    cases k with
    | true => exact evSs_le a e h1
    | false => exact evSs_le b e h1
  | .whl c b, e, h => hW _ _ _ _ (evB_le hG c) (evSs_le b) e h
  | .forS t it b, e, h => le_bind (evI_le hG it e h) fun s h1 => le_for (evT_le hG t) (evSs_le b) _ _ _
  | .brk, e, h => Le.refl _
  | .cont, e, h => Le.refl _
  | .pass, e, h => Le.refl _
  | .raise x m, e, h => Le.refl _
  | .raiseA x es, e, h => Le.refl _
theorem evSs_le : ∀ (m : List MS) (e : MEnv) (h : MH), Le (evSs L G m e h) (evSs L' G' m e h)
  | [], e, h => Le.refl _
  | s :: r, e, h => le_bind (evS_le s e h) fun fe h1 => by
    obtain ⟨f, e2⟩ := fe
    cases f with
    | nx => exact evSs_le r e2 h1
    | _ => exact Le.refl _
end
end
theorem callK_le (n : Nat) (T : Nat → Option Fn) : ∀ (k i : Nat) (vs : List MV) (h : MH), Le (callK (some n) T k i vs h) (callK none T k i vs h)
  | 0, i, vs, h => Le.refl _
  | k + 1, i, vs, h => by
    show Le (match T i with | some f => runFn (some n) (callK (some n) T k) f vs h | none => .bad) (match T i with | some f => runFn none (callK none T k) f vs h | none => .bad)
    cases T i with
    | none => exact Le.refl _
    | some f =>
      dsimp only
      unfold runFn
      split
      · intro hb
        have q := evSs_le (callK_le n T k) (fun c c' b b' h1 h2 e h => le_whl h1 h2 n e h) f.body (vs.map some ++ List.replicate (f.ns - f.ps) none) h
        have : evSs (some n) (callK (some n) T k) f.body (vs.map some ++ List.replicate (f.ns - f.ps) none) h ≠ .bad := fun e => by rw [e] at hb; exact hb rfl
        rw [q this]
      · exact Le.refl _
/-- what runs with fuel -/
theorem callK_some {n : Nat} {T : Nat → Option Fn} {k i : Nat} {vs : List MV} {h : MH} {r : Res MV} (q : callK (some n) T k i vs h = r) (hr : r ≠ .bad) : callK none T k i vs h = r := by
  have := callK_le n T k i vs h (by rw [q]; exact hr)
  rw [this, q]
theorem callK_up (T : Nat → Option Fn) : ∀ (k i : Nat) (vs : List MV) (h : MH), Le (callK none T k i vs h) (callK none T (k + 1) i vs h)
  | 0, i, vs, h => Le.bad _
  | k + 1, i, vs, h => by
    show Le (match T i with | some f => runFn none (callK none T k) f vs h | none => .bad) (match T i with | some f => runFn none (callK none T (k + 1)) f vs h | none => .bad)
    cases T i with
    | none => exact Le.refl _
    | some f =>
      dsimp only
      unfold runFn
      split
      · intro hb
        have q := evSs_le (callK_up T k) (fun c c' b b' h1 h2 e h => le_whl0 h1 h2 e h) f.body (vs.map some ++ List.replicate (f.ns - f.ps) none) h
        have : evSs none (callK none T k) f.body (vs.map some ++ List.replicate (f.ns - f.ps) none) h ≠ .bad := fun e => by rw [e] at hb; exact hb rfl
        rw [q this]
      · exact Le.refl _
theorem callK_lev {T : Nat → Option Fn} {k n i : Nat} {vs : List MV} {h : MH} {r : Res MV} (q : callK none T k i vs h = r) (hr : r ≠ .bad) (hn : k ≤ n) : callK none T n i vs h = r := by
  obtain ⟨d, rfl⟩ : ∃ d, n = k + d := ⟨n - k, by omega⟩
  induction d with
  | zero => exact q
  | succ d ih =>
    have := callK_up T (k + d) i vs h (by rw [ih (by omega)]; exact hr)
    rw [show k + (d + 1) = k + d + 1 by omega, this, ih (by omega)]
/-- what runs with fuel at some level -/
theorem callK_fuel {m : Nat} {T : Nat → Option Fn} {k n i : Nat} {vs : List MV} {h : MH} {r : Res MV} (q : callK (some m) T k i vs h = r) (hr : r ≠ .bad) (hn : k ≤ n) : callK none T n i vs h = r := callK_lev (callK_some q hr) hr hn
end MM
set_option Elab.async false
set_option linter.all false
set_option maxRecDepth 100000
/-! S15: rows of a rule, the program's and the law's. -/
namespace G
open PySem MM
inductive Rule where | rests | right (p : Post) | kept (p : Post)
def Rule.mv : Rule → MV
  | .rests => .tup [.str "rests"]
  | .right p => .tup [.str "right", p.mv]
  | .kept p => .tup [.str "kept", p.mv]
def Rule.Ok : Rule → Prop
  | .rests => True
  | .right p => p.Ok
  | .kept p => p.Ok
def freeB (n : Nat) : List (Nat × Nat) := List.replicate n (0, 400)
def rowsBy (r : Rule) (cl : List Nat) (house : Nat) : List (List Nat) := if cl.sum = 0 ∧ 0 < house then [] else match r with
    | .rests => restsIn cl house
    | .right p => rowsIn p cl (freeB cl.length) house
    | .kept p => rowsIn p cl (qBounds cl house) house
theorem str_g1 : strEq "right" "rests" = false := by decide +kernel
theorem str_g2 : strEq "kept" "rests" = false := by decide +kernel
theorem str_g3 : strEq "rests" "rests" = true := by decide +kernel
theorem str_g4 : strEq "right" "kept" = false := by decide +kernel
theorem str_g5 : strEq "kept" "kept" = true := by decide +kernel
theorem str_g6 : strEq "right" "right" = true := by decide +kernel
theorem str_g7 : strEq "kept" "right" = false := by decide +kernel
theorem str_g8 : strEq "rests" "right" = false := by decide +kernel
theorem str_h1 : strFine "rests" = true := by decide +kernel
theorem str_h2 : strFine "right" = true := by decide +kernel
theorem str_h3 : strFine "kept" = true := by decide +kernel
section
variable {n : Nat} {cl : List Nat} {house : Nat} {h : MH} {p : Post}
theorem free_at {k i : Nat} : (freeB k).getD i (0, 0) = if i < k then (0, 400) else (0, 0) := by
  unfold freeB
  rw [List.getD_eq_getElem?_getD, List.getElem?_replicate]
  split <;> rfl
theorem free_lo {k i : Nat} : lo0 (freeB k) i = 0 := by
  unfold lo0
  rw [free_at]; split <;> rfl
theorem free_hi {k i : Nat} (hi : i < k) : hi0 (freeB k) i = 400 := by
  unfold hi0
  rw [free_at, if_pos hi]
theorem deal_free (hp : p.Ok) : Deal p cl (freeB cl.length) := ⟨hp, by unfold freeB; simp, fun i hi _ => by rw [free_lo]; omega⟩
theorem rows_free (hp : p.Ok) (V : ClOk cl) : Rows p cl (freeB cl.length) ((freeB cl.length).map (·.1)) := by
  refine ⟨hp, by unfold freeB; simp, by unfold freeB; simp, V.le, fun s hs => ?_⟩
  unfold freeB at hs
  rw [List.map_replicate] at hs
  rw [List.eq_of_mem_replicate hs]; omega
theorem free_hb : ∀ b ∈ freeB cl.length, b.2 ≤ 1000 := fun b hb => by
  unfold freeB at hb
  rw [List.eq_of_mem_replicate hb]
  show 400 ≤ 1000
  omega
theorem claim_le (c : Nat) : ∀ l : List Nat, c ∈ l → c ≤ l.sum
  | x :: l, h => by
    rw [List.sum_cons]
    rcases List.mem_cons.mp h with e | e
    · subst e; omega
    · have := claim_le c l e; omega
theorem qb_at (cl : List Nat) (house i : Nat) (hi : i < cl.length) : (qBounds cl house).getD i (0, 0) = (at0 cl i * house / maxN cl.sum, (at0 cl i * house + maxN cl.sum - 1) / maxN cl.sum) := by
  unfold qBounds
  rw [List.getD_eq_getElem?_getD, List.getElem?_map, get_of 0 hi]
  rfl
theorem maxN_pos (T : Nat) : 0 < maxN T := by unfold maxN; split <;> omega
theorem maxN_ge (T : Nat) : T ≤ maxN T := by unfold maxN; split <;> omega
theorem floor_ceil (a T : Nat) (hT : 0 < T) : a / T ≤ (a + T - 1) / T := Nat.div_le_div_right (by omega)
theorem ceil_le (c house T : Nat) (hT : 0 < T) (hc : c ≤ T) : (c * house + T - 1) / T ≤ house := by
  have : c * house ≤ T * house := Nat.mul_le_mul_right house hc
  have e := Nat.mul_comm T house
  rw [← Nat.lt_succ_iff, Nat.div_lt_iff_lt_mul hT, Nat.succ_mul]
  omega
theorem deal_kept (hp : p.Ok) : Deal p cl (qBounds cl house) := ⟨hp, by unfold qBounds; simp, fun i hi _ => by
  unfold lo0 hi0
  rw [qb_at cl house i hi]
  exact floor_ceil _ _ (maxN_pos _)⟩
theorem kept_le : ∀ b ∈ qBounds cl house, b.1 ≤ house ∧ b.2 ≤ house := fun b hb => by
  unfold qBounds at hb
  obtain ⟨c, hc, rfl⟩ := List.mem_map.mp hb
  have h1 := ceil_le c house (maxN cl.sum) (maxN_pos _) (Nat.le_trans (claim_le c cl hc) (maxN_ge _))
  exact ⟨Nat.le_trans (floor_ceil _ _ (maxN_pos _)) h1, h1⟩
theorem rows_kept (hp : p.Ok) (V : ClOk cl) (hh : house ≤ 400) : Rows p cl (qBounds cl house) ((qBounds cl house).map (·.1)) := by
  refine ⟨hp, by unfold qBounds; simp, by unfold qBounds; simp, V.le, fun s hs => ?_⟩
  obtain ⟨b, hb, rfl⟩ := List.mem_map.mp hs
  have := (kept_le b hb).1
  omega
theorem kept_hb (hh : house ≤ 400) : ∀ b ∈ qBounds cl house, b.2 ≤ 1000 := fun b hb => by have := (kept_le b hb).2; omega
theorem flat_rep (x : MV) : ∀ k : Nat, (List.replicate k [x]).flatten = List.replicate k x
  | 0 => rfl
  | k + 1 => by rw [List.replicate_succ, List.flatten_cons, flat_rep x k]; rfl
theorem sp_rows_of (hn : cl.length + 9 ≤ n) (V : ClOk cl) (h16 : cl.length ≤ 16) (h0 : 0 < cl.length) (hh : house ≤ 400) (r : Rule) (hr : r.Ok) :
    callK none T n 81 [r.mv, .tup (cl.map natM), .int (house : Int)] h = .ok (.tup ((rowsBy r cl house).map rowM)) h := by
  rw [call_at T_rows_of (by omega)]
  have sm := sum_M cl h
  by_cases z : cl.sum = 0 ∧ 0 < house
  · have e : rowsBy r cl house = [] := by unfold rowsBy; rw [if_pos z]
    rw [e]
    obtain ⟨z1, z2⟩ := z
    rw [z1] at sm
    simp at sm
    simp [runFn, fn_rows_of, b_rows_of, finFn, evSs, evS, evE, evEs, evB, evAll, sm, z2]
  · have hT : 0 < cl.sum ∨ house = 0 := by omega
    have tst : evB (callK none T (n - 1)) (.all (.cons (.val (.cmp .eq (.bi .sum (.cons (.var 1) .nil)) (.int 0))) (.cons (.val (.cmp .gt (.var 2) (.int 0))) .nil))) [some r.mv, some (.tup (cl.map natM)), some (.int (house : Int)), none] h = .ok false h := by
      by_cases z1 : cl.sum = 0
      · have z2 : ¬ 0 < house := fun k => z ⟨z1, k⟩
        rw [z1] at sm
        simp at sm
        simp [evB, evAll, evE, evEs, sm, z2]
      · simp [evB, evAll, evE, evEs, sm, z1]
    cases r with
    | rests =>
      have q := sp_rests_in (n := n - 1) (h := h) (by omega) V h16 h0 house (by omega) hT
      have e : rowsBy .rests cl house = restsIn cl house := by unfold rowsBy; rw [if_neg z]
      rw [e]
      unfold Rule.mv at tst ⊢
      simp [runFn, fn_rows_of, b_rows_of, finFn, evSs, evS, tst]
      simp [evE, evEs, evB, cv_eqS, str_h1, str_g3, q]
    | right p =>
      have q := sp_rows_in (n := n - 1) (h := h) (p := p) (cl := cl) (bd := freeB cl.length) (by omega) h16 h0 (rows_free hr V) free_hb house (by omega)
      have e : rowsBy (.right p) cl house = rowsIn p cl (freeB cl.length) house := by unfold rowsBy; rw [if_neg z]
      rw [e]
      have fb : (freeB cl.length).map pairM = List.replicate cl.length (.tup [.int 0, .int 400]) := by unfold freeB; rw [List.map_replicate]; rfl
      rw [fb] at q
      have e3 : ¬ (cl.length : Int) < 1 := by omega
      have e4 : (1 : Int) ≤ (cl.length : Int) := by omega
      have e5 : (cl.length : Int) ≤ 1000 := by omega
      unfold Rule.mv at tst ⊢
      simp [runFn, fn_rows_of, b_rows_of, finFn, evSs, evS, tst]
      simp [evE, evEs, evB, evT, cv_eqS, str_h1, str_h2, str_h3, str_g1, str_g4, g_SEATS, e4, e5, show Nat.ble 1 1000 = true from rfl, flat_rep, q]
    | kept p =>
      have q0 := sp_quotas_in (n := n - 1) (h := h) (by omega) V house (by omega) hT
      have q1 := sp_bounds_by (n := n - 1) (h := h) (by omega) V house
      have q := sp_rows_in (n := n - 1) (h := h) (p := p) (cl := cl) (bd := qBounds cl house) (by omega) h16 h0 (rows_kept hr V hh) (kept_hb hh) house (by omega)
      have e : rowsBy (.kept p) cl house = rowsIn p cl (qBounds cl house) house := by unfold rowsBy; rw [if_neg z]
      rw [e]
      unfold Rule.mv at tst ⊢
      simp [runFn, fn_rows_of, b_rows_of, finFn, evSs, evS, tst]
      simp [evE, evEs, evB, evT, cv_eqS, str_h1, str_h2, str_h3, str_g2, str_g5, q0, q1, q]
/-! ### the checks -/
theorem sp_fits_claims (hn : 2 ≤ n) (V : ClOk cl) (h0 : 0 < cl.length) (h8 : cl.length ≤ 8) : callK none T n 67 [.tup (cl.map natM)] h = .ok (.bl true) h := by
  rw [call_at T_fits_claims (by omega)]
  have t := sp_is_tuple_of (n - 1) (by omega) (cl.map natM) 1 8 h
  have e : (1 : Int) ≤ ((cl.map natM).length : Int) ∧ ((cl.map natM).length : Int) ≤ 8 := by rw [List.length_map]; omega
  rw [decide_eq_true e] at t
  have c0 : evF (callK none T (n - 1)) c0_fits_claims [some (.tup (cl.map natM)), none] h = .ok ((cl.map fun _ => true).map MV.bl) h := by
    have c := comp_map (G := callK none T (n - 1)) (own := [1]) (tg := .nm 1) (it := .seq (.var 0)) (c := .tt) (elt := .call 0 (.cons (.var 1) (.cons (.int 0) (.cons (.glb "CLAIM" g_CLAIM) .nil)))) (e := [some (.tup (cl.map natM)), none]) (h := h)
      cl natM (fun _ => true) (fun _ => MV.bl true) (by simp [evI, evE]) (fun c hc => by
        have w := sp_is_whole (n - 1) (by omega) (c : Int) 0 1000000 h
        have := V.le c hc
        rw [decide_eq_true (show (0 : Int) ≤ (c : Int) ∧ (c : Int) ≤ 1000000 by omega)] at w
        refine ⟨_, rfl, rfl, fun _ => ?_⟩
        simp [evE, evEs, wipeM, natM, g_CLAIM, w]) (by have := V.few; omega)
    rw [filter_map_all] at c
    rw [List.map_map]
    exact c
  have al := bi_all_l (cl.map fun _ => true) h
  rw [show (cl.map fun _ => true).all id = true by rw [List.all_map]; exact List.all_eq_true.mpr fun _ _ => rfl] at al
  generalize (cl.map fun _ => true) = bs at *
  simp [runFn, fn_fits_claims, b_fits_claims, finFn, evSs, evS, evE, evEs, evAnd, t, c0, al, g_CLAIMS]
theorem sp_need_claims (hn : 3 ≤ n) (V : ClOk cl) (h0 : 0 < cl.length) (h8 : cl.length ≤ 8) : callK none T n 74 [.tup (cl.map natM)] h = .ok .non h := by
  rw [call_at T_need_claims (by omega)]
  have q := sp_fits_claims (n := n - 1) (h := h) (by omega) V h0 h8
  simp [runFn, fn_need_claims, b_need_claims, finFn, evSs, evS, evE, evEs, evB, q]
theorem sp_need_number (hn : 2 ≤ n) (a b c : Int) (h1 : b ≤ a) (h2 : a ≤ c) : callK none T n 66 [.int a, .int b, .int c] h = .ok .non h := by
  rw [call_at T_need_number (by omega)]
  have q := sp_is_whole (n - 1) (by omega) a b c h
  rw [decide_eq_true ⟨h1, h2⟩] at q
  simp [runFn, fn_need_number, b_need_number, finFn, evSs, evS, evE, evEs, evB, q]
theorem sp_need_house (hn : 3 ≤ n) (hh : house ≤ 400) : callK none T n 75 [.int (house : Int)] h = .ok .non h := by
  rw [call_at T_need_house (by omega)]
  have q := sp_need_number (n := n - 1) (h := h) (by omega) (house : Int) 0 400 (by omega) (by omega)
  simp [runFn, fn_need_house, b_need_house, finFn, evSs, evS, evE, evEs, evB, q, g_SEATS]
/-! the posts of the laws -/
def lawPosts : List Post := [.middle, .root, .plus 1 2, .plus 1 1, .plus 0 1, .plus 1 3, .plus 2 5, .plus 7 10]
def lawRules : List Rule := .rests :: (lawPosts.map .right ++ lawPosts.map .kept)
theorem post_ok {p : Post} (hp : p ∈ lawPosts) : p.Ok := by
  revert p
  simp only [lawPosts, List.forall_mem_cons]
  refine ⟨?_, ?_, ?_, ?_, ?_, ?_, ?_, ?_, fun _ h => by cases h⟩ <;> simp [Post.Ok] <;> decide
theorem rule_ok {r : Rule} (hr : r ∈ lawRules) : r.Ok := by
  unfold lawRules at hr
  rcases List.mem_cons.mp hr with e | e
  · subst e; trivial
  · rcases List.mem_append.mp e with e | e
    · obtain ⟨p, hp, rfl⟩ := List.mem_map.mp e; exact post_ok hp
    · obtain ⟨p, hp, rfl⟩ := List.mem_map.mp e; exact post_ok hp
theorem fits_rule_k (h : MH) : ∀ r ∈ lawRules, callK (some 50) T 6 80 [r.mv] h = .ok (.bl true) h := by
  simp only [lawRules, lawPosts, List.map_cons, List.map_nil, List.cons_append, List.nil_append, List.forall_mem_cons]
  refine ⟨?_, ?_, ?_, ?_, ?_, ?_, ?_, ?_, ?_, ?_, ?_, ?_, ?_, ?_, ?_, ?_, ?_, fun _ h => by cases h⟩ <;> kernel_rfl
theorem sp_fits_rule (hn : 6 ≤ n) {r : Rule} (hr : r ∈ lawRules) : callK none T n 80 [r.mv] h = .ok (.bl true) h := callK_fuel (fits_rule_k h r hr) (fun z => nomatch z) hn
theorem sp_is_rule (hn : 7 ≤ n) {r : Rule} (hr : r ∈ lawRules) : callK none T n 83 [r.mv] h = .ok (.bl true) h := by
  rw [call_at T_is_rule (by omega)]
  have q := sp_fits_rule (n := n - 1) (h := h) (by omega) hr
  simp [runFn, fn_is_rule, b_is_rule, finFn, evSs, evS, evE, evEs, q]
theorem sp_need_rule (hn : 7 ≤ n) {r : Rule} (hr : r ∈ lawRules) : callK none T n 82 [r.mv] h = .ok .non h := by
  rw [call_at T_need_rule (by omega)]
  have q := sp_fits_rule (n := n - 1) (h := h) (by omega) hr
  simp [runFn, fn_need_rule, b_need_rule, finFn, evSs, evS, evE, evEs, evB, q]
theorem sp_rows_by (hn : cl.length + 10 ≤ n) (V : ClOk cl) (h8 : cl.length ≤ 8) (h0 : 0 < cl.length) (hh : house ≤ 400) {r : Rule} (hr : r ∈ lawRules) :
    callK none T n 84 [r.mv, .tup (cl.map natM), .int (house : Int)] h = .ok (.tup ((rowsBy r cl house).map rowM)) h := by
  rw [call_at T_rows_by (by omega)]
  have q1 := sp_need_rule (n := n - 1) (h := h) (by omega) hr
  have q2 := sp_need_claims (n := n - 1) (h := h) (by omega) V h0 h8
  have q3 := sp_need_house (n := n - 1) (h := h) (by omega) hh
  have q4 := sp_rows_of (n := n - 1) (h := h) (by omega) V (by omega) h0 hh r (rule_ok hr)
  simp [runFn, fn_rows_by, b_rows_by, finFn, evSs, evS, evE, evEs, q1, q2, q3, q4]
end
end G
set_option Elab.async false
set_option linter.all false
set_option maxRecDepth 100000
/-! S16: the law's rows of a rule. -/
namespace G
open PySem MM
section
variable {n : Nat} {cl : List Nat} {house : Nat} {h : MH} {p : Post} {bd : List (Nat × Nat)}
theorem rowsIn_base (D : Deal p cl bd) (hh : (bd.map (·.1)).sum = house) : rowsIn p cl bd house = [bd.map (·.1)] := by
  obtain ⟨h1, h2⟩ := rowsIn_spec D house
  refine asc_ext _ _ h1 (List.pairwise_singleton _ _) fun r => ?_
  rw [h2 r, List.mem_singleton]
  constructor
  · rintro ⟨Q, hs⟩
    exact right_base Q (by rw [List.length_map, D.lb]) (fun i h => lows_at (by rw [D.lb]; exact h)) (by omega)
  · intro e; subst e; exact ⟨D.low, hh⟩
theorem grown_ok (D : Deal p cl bd) (V : ClOk cl) (hb : ∀ b ∈ bd, b.1 ≤ 900 ∧ b.2 ≤ 900) (h6 : cl.length ≤ 6) (t : Nat) :
    (∀ row ∈ grownL p cl (bd.map (·.2)) t [bd.map (·.1)], RowA p cl (bd.map (·.2)) row) ∧ (grownL p cl (bd.map (·.2)) t [bd.map (·.1)]).length ≤ 500 ∧ (rawL p cl (bd.map (·.2)) (grownL p cl (bd.map (·.2)) t [bd.map (·.1)])).length < 64 := by
  rw [grown_eq D t]
  obtain ⟨f1, f2⟩ := rows_few D h6 ((bd.map (·.1)).sum + t)
  refine ⟨fun row hr => ?_, by omega, f2⟩
  obtain ⟨Q, _⟩ := ((rowsIn_spec D _).2 row).mp hr
  refine ⟨D.post, Q.len, by rw [List.length_map, D.lb], V.le, fun s hs => ?_, by omega⟩
  obtain ⟨i, hi, rfl⟩ := List.getElem_of_mem hs
  have hi' : i < cl.length := by rw [← Q.len]; exact hi
  have e : row[i] = at0 row i := by
    show _ = row.getD i 0
    rw [List.getD_eq_getElem?_getD, List.getElem?_eq_getElem hi]; rfl
  have hbi := hb _ (List.mem_of_getElem? (get_of (xs := bd) (0, 0) (show i < bd.length by rw [D.lb]; exact hi')))
  rw [e]
  cases c : actc cl i with
  | true =>
    have := Q.high i hi' c
    have h2 : hi0 bd i ≤ 900 := hbi.2
    omega
  | false =>
    have := Q.off i hi' c
    have h2 : lo0 bd i ≤ 900 := hbi.1
    omega
theorem sp_grown_in (hn : 3 ≤ n) (D : Deal p cl bd) (V : ClOk cl) (hb : ∀ b ∈ bd, b.1 ≤ 900 ∧ b.2 ≤ 900) (h6 : cl.length ≤ 6) (h0 : 0 < cl.length) (hle : (bd.map (·.1)).sum ≤ house) (hh : house ≤ 1000000) :
    callK none T n 89 [.tup (cl.map natM), p.mv, .int (house : Int), .lst ((bd.map (·.1)).map natM), .lst ((bd.map (·.2)).map natM)] h = .ok (.lst ((rowsIn p cl bd house).map rowM)) h := by
  have := sp_law_grown (n := n) (p := p) (cl := cl) (h := h) (lo := bd.map (·.1)) (hi := bd.map (·.2)) (house := house) hn h0 (by omega) hle hh (fun t _ => grown_ok D V hb h6 t)
  unfold lawGrown at this
  rw [grown_eq D, show (bd.map (·.1)).sum + (house - (bd.map (·.1)).sum) = house by omega] at this
  exact this
theorem zeros_sum (k : Nat) : (List.replicate k 0).sum = 0 := by induction k with
  | zero => rfl
  | succ k ih => rw [List.replicate_succ, List.sum_cons, ih]
theorem rowsBy_zero (r : Rule) (hr : r.Ok) (hs : cl.sum = 0) : rowsBy r cl 0 = [List.replicate cl.length 0] := by
  unfold rowsBy
  rw [if_neg (by omega)]
  have fz : floorsL cl 0 = List.replicate cl.length 0 := by
    unfold floorsL
    rw [List.eq_replicate_iff]
    exact ⟨by simp, fun b hb => by obtain ⟨c, _, rfl⟩ := List.mem_map.mp hb; simp⟩
  cases r with
  | rests =>
    show restsIn cl 0 = _
    unfold restsIn
    rw [fz, zeros_sum, if_pos rfl]
  | right p =>
    show rowsIn p cl (freeB cl.length) 0 = _
    have e : (freeB cl.length).map (·.1) = List.replicate cl.length 0 := by unfold freeB; rw [List.map_replicate]
    rw [rowsIn_base (deal_free hr) (by rw [e, zeros_sum]), e]
  | kept p =>
    show rowsIn p cl (qBounds cl 0) 0 = _
    have e : (qBounds cl 0).map (·.1) = List.replicate cl.length 0 := by
      rw [List.eq_replicate_iff]
      refine ⟨by unfold qBounds; simp, fun b hb => ?_⟩
      unfold qBounds at hb
      rw [List.map_map] at hb
      obtain ⟨c, _, rfl⟩ := List.mem_map.mp hb
      simp
    rw [rowsIn_base (deal_kept hr) (by rw [e, zeros_sum]), e]
theorem sum_rep (k x : Nat) : (List.replicate k x).sum = k * x := by induction k with
  | zero => simp
  | succ k ih => rw [List.replicate_succ, List.sum_cons, ih, Nat.succ_mul]; omega
theorem rep_M (k x : Nat) : (List.replicate k x).map natM = List.replicate k (.int (x : Int)) := by rw [List.map_replicate]; rfl
theorem sp_law_rows (hn : 4 ≤ n) (V : ClOk cl) (h6 : cl.length ≤ 6) (h0 : 0 < cl.length) (hh : house ≤ 400) {r : Rule} (hr : r ∈ lawRules) :
    callK none T n 91 [r.mv, .tup (cl.map natM), .int (house : Int)] h = .ok (.lst ((rowsBy r cl house).map rowM)) h := by
  rw [call_at T__law_rows (by omega)]
  have ok := rule_ok hr
  have sm := sum_M cl h
  have e4 : (1 : Int) ≤ (cl.length : Int) := by omega
  have e5 : (cl.length : Int) ≤ 1000 := by omega
  have e6 : Nat.ble 1 1000 = true := rfl
  by_cases z : cl.sum = 0
  · rw [z] at sm
    simp at sm
    by_cases z2 : house = 0
    · subst z2
      have e := rowsBy_zero r ok z
      have e2 : rowM (List.replicate cl.length 0) = .tup (List.replicate cl.length (.int 0)) := by unfold rowM; rw [rep_M]; rfl
      rw [e]
      simp [runFn, fn__law_rows, b__law_rows, finFn, evSs, evS, evE, evEs, evB, evF, evT, evTs, sm, e4, e5, e6, flat_rep, e2]
    · have e : rowsBy r cl house = [] := by unfold rowsBy; rw [if_pos (by omega)]
      rw [e]
      simp [runFn, fn__law_rows, b__law_rows, finFn, evSs, evS, evE, evEs, evB, evF, evT, evTs, sm, z2]
  · have hT : 0 < cl.sum := by omega
    have nz : ¬ (cl.sum = 0 ∧ 0 < house) := by omega
    cases r with
    | rests =>
      have q := sp_law_rested (n := n - 1) (h := h) (by omega) V h0 h6 hT (house := house) (by omega)
      have e : rowsBy .rests cl house = restsIn cl house := by unfold rowsBy; rw [if_neg nz]
      rw [e]
      unfold Rule.mv
      simp [runFn, fn__law_rows, b__law_rows, finFn, evSs, evS, evE, evEs, evB, evF, evT, evTs, sm, z, cv_eqS, str_h1, str_h2, str_h3, str_g3, str_g8, q]
    | right p =>
      have b1 : (freeB cl.length).map (·.1) = List.replicate cl.length 0 := by unfold freeB; rw [List.map_replicate]
      have b2 : (freeB cl.length).map (·.2) = List.replicate cl.length 400 := by unfold freeB; rw [List.map_replicate]
      have q := sp_grown_in (n := n - 1) (h := h) (p := p) (cl := cl) (bd := freeB cl.length) (house := house) (by omega) (deal_free ok) V (fun b hb => by
        unfold freeB at hb
        rw [List.eq_of_mem_replicate hb]
        exact ⟨by show 0 ≤ 900; omega, by show 400 ≤ 900; omega⟩) h6 h0 (by rw [b1, zeros_sum]; omega) (by omega)
      rw [b1, b2, rep_M, rep_M] at q
      have e : rowsBy (.right p) cl house = rowsIn p cl (freeB cl.length) house := by unfold rowsBy; rw [if_neg nz]
      rw [e]
      have k1 : (cl.length : Int) ≤ 1000000 := by omega
      have k2 : lenOk cl.length = true := len_ok (by omega)
      have q' : callK none T (n - 1) 89 [.tup (cl.map natM), p.mv, .int (house : Int), .lst (List.replicate cl.length (.int 0)), .lst (List.replicate cl.length (.int 400))] h = .ok (.lst ((rowsIn p cl (freeB cl.length) house).map rowM)) h := q
      unfold Rule.mv
      simp [runFn, fn__law_rows, b__law_rows, finFn, evSs, evS, evE, evEs, evB, evF, evT, evTs, sm, z, cv_eqS, str_h1, str_h2, str_h3, str_g6, k1, k2, flat_rep, q']
    | kept p =>
      have mx : maxN cl.sum = cl.sum := by unfold maxN; split <;> omega
      have b1 : (qBounds cl house).map (·.1) = floorsL cl house := by unfold qBounds floorsL; rw [List.map_map, mx]; rfl
      have b2 : (qBounds cl house).map (·.2) = ceilL cl house := by unfold qBounds ceilL; rw [List.map_map, mx]; rfl
      have q := sp_grown_in (n := n - 1) (h := h) (p := p) (cl := cl) (bd := qBounds cl house) (house := house) (by omega) (deal_kept ok) V (fun b hb => by have := kept_le b hb; omega) h6 h0 (by rw [b1]; exact (rests_sum cl house hT).1) (by omega)
      rw [b1, b2] at q
      have e : rowsBy (.kept p) cl house = rowsIn p cl (qBounds cl house) house := by unfold rowsBy; rw [if_neg nz]
      rw [e]
      have tot := V.tot
      have c0 : evF (callK none T (n - 1)) c0__law_rows [some (Rule.kept p).mv, some (.tup (cl.map natM)), some (.int (house : Int)), some (.int ((cl.sum : Nat) : Int)), some (.int (cl.length : Int)), none, none] h = .ok ((floorsL cl house).map natM) h := by
        have c := comp_map (G := callK none T (n - 1)) (own := [6]) (tg := .nm 6) (it := .seq (.var 1)) (c := .tt) (elt := .bin .fdiv (.bin .mul (.var 6) (.var 2)) (.var 3)) (e := [some (Rule.kept p).mv, some (.tup (cl.map natM)), some (.int (house : Int)), some (.int ((cl.sum : Nat) : Int)), some (.int (cl.length : Int)), none, none]) (h := h)
          cl natM (fun _ => true) (fun c => natM (c * house / cl.sum)) (by simp [evI, evE]) (fun c hc => by
            have m := mul_claim (V.le c hc) (show house ≤ 10 ^ 6 by omega)
            have d : divOk ((c : Int) * (house : Int)) (cl.sum : Int) = true := div_ok (by omega) (sm_of 30 tot (by omega))
            refine ⟨_, rfl, rfl, fun _ => ?_⟩
            simp [evE, evEs, wipeM, natM, m, d]) (by omega)
        rw [filter_map_all] at c
        unfold floorsL
        rw [List.map_map]
        exact c
      have c1 : evF (callK none T (n - 1)) c1__law_rows [some (Rule.kept p).mv, some (.tup (cl.map natM)), some (.int (house : Int)), some (.int ((cl.sum : Nat) : Int)), some (.int (cl.length : Int)), some (.lst ((floorsL cl house).map natM)), none] h = .ok ((ceilL cl house).map natM) h := by
        have c := comp_map (G := callK none T (n - 1)) (own := [6]) (tg := .nm 6) (it := .seq (.var 1)) (c := .tt) (elt := .bin .fdiv (.bin .sub (.bin .add (.bin .mul (.var 6) (.var 2)) (.var 3)) (.int 1)) (.var 3)) (e := [some (Rule.kept p).mv, some (.tup (cl.map natM)), some (.int (house : Int)), some (.int ((cl.sum : Nat) : Int)), some (.int (cl.length : Int)), some (.lst ((floorsL cl house).map natM)), none]) (h := h)
          cl natM (fun _ => true) (fun c => natM ((c * house + cl.sum - 1) / cl.sum)) (by simp [evI, evE]) (fun c hc => by
            have m := mul_claim (V.le c hc) (show house ≤ 10 ^ 6 by omega)
            have d : divOk ((c : Int) * (house : Int) + (cl.sum : Int) - 1) (cl.sum : Int) = true := div_ok (by omega) (sm_of 30 tot (by omega))
            have e1 : (((c * house + cl.sum - 1 : Nat) : Int)) = (c : Int) * (house : Int) + (cl.sum : Int) - 1 := by
              have : ((c * house : Nat) : Int) = (c : Int) * (house : Int) := by simp
              rw [← this]; omega
            refine ⟨_, rfl, rfl, fun _ => ?_⟩
            simp [evE, evEs, wipeM, natM, m, d, e1]) (by omega)
        rw [filter_map_all] at c
        unfold ceilL
        rw [List.map_map]
        exact c
      unfold Rule.mv at c0 c1 ⊢
      simp [runFn, fn__law_rows, b__law_rows, finFn, evSs, evS, evE, evEs, evB, evF, evT, evTs, sm, z, cv_eqS, str_h1, str_h2, str_h3, str_g2, str_g7, c0, c1, q]
end
end G
set_option Elab.async false
set_option linter.all false
set_option maxRecDepth 100000
/-! S17: repr of small data. -/
namespace MM
open PySem PySem.Spec PyProof.Rows L2
def dat : Nat → MV → Bool
  | _, .int i => decide (0 ≤ i) && decide (i < 10 ^ 10)
  | _, .bl _ => true
  | _, .non => true
  | n + 1, .tup xs => xs.all (dat n)
  | n + 1, .lst xs => xs.all (dat n)
  | _, _ => false
def wt : Nat → MV → Nat
  | n + 1, .tup xs => 3 + (xs.map fun x => wt n x + 2).sum
  | n + 1, .lst xs => 3 + (xs.map fun x => wt n x + 2).sum
  | _, _ => 10
theorem fine_ofString (s : String) : strFine (Str.ofString s) = true := by
  rw [Str.ofString_eq_toList]
  unfold strFine
  rw [List.all_eq_true]
  intro c hc
  simp only [List.mem_map] at hc
  obtain ⟨ch, _, rfl⟩ := hc
  apply Nat.ble_eq_true_of_le
  have := ch.valid
  have h2 : ch.toNat < 1114112 := by
    rcases this with h | h
    · exact Nat.lt_trans h (by decide)
    · exact h.2
  omega
theorem fine_app (a b : Str) (ha : strFine a = true) (hb : strFine b = true) : strFine (a ++ b) = true := by
  unfold strFine at *
  have e : (a ++ b).cps.toList = a.cps.toList ++ b.cps.toList := by
    show (a.cps ++ b.cps).toList = _
    exact Array.toList_append
  rw [e, List.all_append, ha, hb]
  rfl
theorem fine_join (sep : Str) (hs : strFine sep = true) : ∀ l : List Str, (∀ x ∈ l, strFine x = true) → strFine (Str.join sep l) = true
  | [], _ => rfl
  | [x], h => h x List.mem_cons_self
  | x :: y :: r, h => fine_app _ _ (fine_app _ _ (h x List.mem_cons_self) hs) (fine_join sep hs (y :: r) fun z hz => h z (List.mem_cons_of_mem _ hz))
theorem shownAll_map : ∀ xs : List MV, PyData.shownAll (toPDs xs) = xs.map fun x => (toPD x).shown
  | [] => rfl
  | x :: r => by
    show (toPD x).shown :: PyData.shownAll (toPDs r) = _
    rw [shownAll_map r]; rfl
theorem join_len (ts : List Str) : (Str.join ", " ts).length ≤ (ts.map fun t => t.length + 2).sum := by
  cases ts with
  | nil => exact Nat.zero_le _
  | cons t r =>
    have := join_length_add (t :: r) (by simp)
    unfold piled at this
    omega
theorem app_len (a b : Str) : (a ++ b).length = a.length + b.length := by
  show (a.cps ++ b.cps).size = _
  exact Array.size_append
theorem dat_ok : ∀ (n : Nat) (v : MV), dat n v = true → shp n v = true ∧ (toPD v).showable = true ∧ (toPD v).shown.length ≤ wt n v ∧ strFine (toPD v).shown = true := by
  intro n
  induction n with
  | zero =>
    intro v hv
    cases v with
    | int i =>
      unfold dat at hv
      rw [Bool.and_eq_true, decide_eq_true_eq, decide_eq_true_eq] at hv
      obtain ⟨h0, h1⟩ := hv
      refine ⟨rfl, ?_, toString_length_le (k := 10) h0 (by omega) h1, fine_ofString _⟩
      show decide (i.natAbs.log2 < 1920) = true
      have h1 : i < 10000000000 := h1
      have : i.natAbs.log2 ≤ 34 := log2_le (by omega)
      exact decide_eq_true (by omega)
    | bl b => cases b <;> exact ⟨rfl, rfl, by decide, by decide⟩
    | non => exact ⟨rfl, rfl, by decide, by decide⟩
    | _ => cases hv
  | succ n ih =>
    have hL : ∀ xs : List MV, xs.all (dat n) = true → shpL n xs = true ∧ PyData.showableAll (toPDs xs) = true ∧ (Str.join ", " (PyData.shownAll (toPDs xs))).length ≤ (xs.map fun x => wt n x + 2).sum ∧ strFine (Str.join ", " (PyData.shownAll (toPDs xs))) = true := by
      intro xs hx
      have all : ∀ x ∈ xs, dat n x = true := List.all_eq_true.mp hx
      refine ⟨?_, ?_, ?_, ?_⟩
      · clear hx
        induction xs with
        | nil => rfl
        | cons x r ihr =>
          rw [shpL, (ih x (all x List.mem_cons_self)).1, ihr fun y hy => all y (List.mem_cons_of_mem _ hy)]; rfl
      · clear hx
        induction xs with
        | nil => rfl
        | cons x r ihr =>
          show ((toPD x).showable && PyData.showableAll (toPDs r)) = true
          rw [(ih x (all x List.mem_cons_self)).2.1, ihr fun y hy => all y (List.mem_cons_of_mem _ hy)]; rfl
      · refine Nat.le_trans (join_len _) ?_
        rw [shownAll_map, List.map_map]
        clear hx
        induction xs with
        | nil => exact Nat.le_refl _
        | cons x r ihr =>
          have h1 := (ih x (all x List.mem_cons_self)).2.2.1
          have h2 := ihr fun y hy => all y (List.mem_cons_of_mem _ hy)
          simp only [List.map_cons, List.sum_cons, Function.comp] at h2 ⊢
          omega
      · refine fine_join _ (by decide +kernel) _ fun x hx' => ?_
        rw [shownAll_map] at hx'
        obtain ⟨y, hy, rfl⟩ := List.mem_map.mp hx'
        exact (ih y (all y hy)).2.2.2
    intro v hv
    cases v with
    | int i =>
      unfold dat at hv
      rw [Bool.and_eq_true, decide_eq_true_eq, decide_eq_true_eq] at hv
      obtain ⟨h0, h1⟩ := hv
      refine ⟨rfl, ?_, toString_length_le (k := 10) h0 (by omega) h1, fine_ofString _⟩
      show decide (i.natAbs.log2 < 1920) = true
      have h1 : i < 10000000000 := h1
      have : i.natAbs.log2 ≤ 34 := log2_le (by omega)
      exact decide_eq_true (by omega)
    | bl b => cases b <;> exact ⟨rfl, rfl, by show _ ≤ 10; decide, by decide⟩
    | non => exact ⟨rfl, rfl, by show _ ≤ 10; decide, by decide⟩
    | tup xs =>
      obtain ⟨h1, h2, h3, h4⟩ := hL xs hv
      refine ⟨h1, h2, ?_, ?_⟩
      · show (PyData.shown (.tuple (toPDs xs))).length ≤ 3 + (xs.map fun x => wt n x + 2).sum
        unfold PyData.shown tupleText
        rw [app_len, app_len]
        have e1 : Str.length ("(" : Str) = 1 := by decide +kernel
        have e2 : Str.length (if (PyData.shownAll (toPDs xs)).length == 1 then ",)" else ")" : String) ≤ 2 := by
          split
          · show Str.length (Str.ofString ",)") ≤ 2; decide +kernel
          · show Str.length (Str.ofString ")") ≤ 2; decide +kernel
        omega
      · show strFine (PyData.shown (.tuple (toPDs xs))) = true
        unfold PyData.shown tupleText
        exact fine_app _ _ (fine_app _ _ (by decide +kernel) h4) (fine_ofString _)
    | lst xs =>
      obtain ⟨h1, h2, h3, h4⟩ := hL xs hv
      refine ⟨h1, h2, ?_, ?_⟩
      · show (PyData.shown (.list (toPDs xs))).length ≤ 3 + (xs.map fun x => wt n x + 2).sum
        unfold PyData.shown
        rw [listText_eq_join, app_len, app_len]
        have e1 : Str.length ("[" : Str) = 1 := by decide +kernel
        have e2 : Str.length ("]" : Str) = 1 := by decide +kernel
        omega
      · show strFine (PyData.shown (.list (toPDs xs))) = true
        unfold PyData.shown
        rw [listText_eq_join]
        exact fine_app _ _ (fine_app _ _ (by decide +kernel) h4) (by decide +kernel)
    | _ => cases hv
def sh (v : MV) : Str := (toPD v).shown
theorem sh_fine {n : Nat} {v : MV} (hd : dat n v = true) : strFine (sh v) = true := (dat_ok n v hd).2.2.2
theorem shp_mono {n m : Nat} (h : n ≤ m) : ∀ v, dat n v = true → dat m v = true := by
  induction m generalizing n with
  | zero =>
    intro v hv
    have : n = 0 := by omega
    subst this
    exact hv
  | succ m ih =>
    intro v hv
    cases n with
    | zero =>
      cases v with
      | int i => exact hv
      | bl b => rfl
      | non => rfl
      | _ => cases hv
    | succ n =>
      cases v with
      | tup xs => exact List.all_eq_true.mpr fun x hx => ih (by omega) x (List.all_eq_true.mp hv x hx)
      | lst xs => exact List.all_eq_true.mpr fun x hx => ih (by omega) x (List.all_eq_true.mp hv x hx)
      | _ => exact hv
theorem repr_tup {n : Nat} {xs : List MV} (hd : dat n (.tup xs) = true) (hn : n ≤ 50) (hw : wt n (.tup xs) ≤ 16000000) (h : MH) : reprV (.tup xs) h = .ok (.str (sh (.tup xs))) h := by
  obtain ⟨_, h2, h3, _⟩ := dat_ok n _ hd
  have h1 := (dat_ok 50 _ (shp_mono hn _ hd)).1
  show okIf (shp 50 (.tup xs) && (toPD (.tup xs)).showable && Nat.ble (toPD (.tup xs)).shown.length 16000000) (MV.str (toPD (.tup xs)).shown) h = _
  rw [h1, h2, Nat.ble_eq_true_of_le (Nat.le_trans h3 hw)]
  rfl
theorem repr_lst {n : Nat} {xs : List MV} (hd : dat n (.lst xs) = true) (hn : n ≤ 50) (hw : wt n (.lst xs) ≤ 16000000) (h : MH) : reprV (.lst xs) h = .ok (.str (sh (.lst xs))) h := by
  obtain ⟨_, h2, h3, _⟩ := dat_ok n _ hd
  have h1 := (dat_ok 50 _ (shp_mono hn _ hd)).1
  show okIf (shp 50 (.lst xs) && (toPD (.lst xs)).showable && Nat.ble (toPD (.lst xs)).shown.length 16000000) (MV.str (toPD (.lst xs)).shown) h = _
  rw [h1, h2, Nat.ble_eq_true_of_le (Nat.le_trans h3 hw)]
  rfl
theorem strEq_refl (x : Str) : strEq x x = true := (strEq_iff x x).mpr rfl
set_option linter.all false in
theorem ne_self {x : Str} (hx : strFine x = true) (h : MH) : cmpV .ne (.str x) (.str x) h = .ok (.bl false) h := by
  rw [cv_ne]; simp [shp, hx, eqv, strEq_refl]
end MM
namespace G
open PySem MM
theorem wt_sum (n : Nat) (b : Nat) : ∀ xs : List MV, (∀ x ∈ xs, wt n x ≤ b) → (xs.map fun x => wt n x + 2).sum ≤ xs.length * (b + 2)
  | [], _ => by simp
  | x :: r, h => by
    have := wt_sum n b r fun y hy => h y (List.mem_cons_of_mem _ hy)
    have := h x List.mem_cons_self
    simp only [List.map_cons, List.sum_cons, List.length_cons, Nat.succ_mul]
    omega
theorem dat_nat (n k : Nat) (h : k < 10 ^ 10) : dat n (natM k) = true := by
  have : (decide (0 ≤ (k : Int)) && decide ((k : Int) < 10 ^ 10)) = true := by
    rw [Bool.and_eq_true, decide_eq_true_eq, decide_eq_true_eq]
    have h : k < 10000000000 := h
    exact ⟨by omega, by omega⟩
  cases n <;> exact this
theorem dat_row (n : Nat) (r : List Nat) (h : ∀ k ∈ r, k < 10 ^ 10) : dat (n + 1) (rowM r) = true := List.all_eq_true.mpr fun x hx => by
  obtain ⟨k, hk, rfl⟩ := List.mem_map.mp hx
  exact dat_nat n k (h k hk)
theorem dat_rows (n : Nat) (l : List (List Nat)) (h : ∀ r ∈ l, ∀ k ∈ r, k < 10 ^ 10) : dat (n + 2) (.tup (l.map rowM)) = true := List.all_eq_true.mpr fun x hx => by
  obtain ⟨r, hr, rfl⟩ := List.mem_map.mp hx
  exact dat_row n r (h r hr)
theorem wt_nat (n k : Nat) : wt n (natM k) = 10 := by cases n <;> rfl
theorem wt_row (n : Nat) (r : List Nat) : wt (n + 1) (rowM r) ≤ 3 + r.length * 12 := by
  have := wt_sum n 10 (r.map natM) fun x hx => by
    obtain ⟨k, _, rfl⟩ := List.mem_map.mp hx
    rw [wt_nat]; exact Nat.le_refl _
  rw [List.length_map] at this
  show 3 + ((r.map natM).map fun x => wt n x + 2).sum ≤ _
  omega
theorem wt_rows (n : Nat) (l : List (List Nat)) (d : Nat) (h : ∀ r ∈ l, r.length ≤ d) : wt (n + 2) (.tup (l.map rowM)) ≤ 3 + l.length * (5 + d * 12) := by
  have := wt_sum (n + 1) (3 + d * 12) (l.map rowM) fun x hx => by
    obtain ⟨r, hr, rfl⟩ := List.mem_map.mp hx
    refine Nat.le_trans (wt_row n r) ?_
    have := Nat.mul_le_mul_right 12 (h r hr)
    omega
  rw [List.length_map, show 3 + d * 12 + 2 = 5 + d * 12 by omega] at this
  show 3 + ((l.map rowM).map fun x => wt (n + 1) x + 2).sum ≤ _
  omega
end G
set_option Elab.async false
set_option linter.all false
set_option maxRecDepth 100000
/-! S18: what is drawn. -/
namespace G
open PySem MM
theorem run_eq {L : Option Nat} {G : MM.Callee} {f : Fn} {vs : List MV} {h : MH} {e : MEnv} {b : List MS} {c : Bool} (hl : vs.length = f.ps) (he : vs.map some ++ List.replicate (f.ns - f.ps) none = e) (hb : f.body = b) (hc : f.cut = c) : runFn L G f vs h = finFn c h (evSs L G b e h) := by
  unfold runFn
  rw [if_pos hl, he, hb, hc]
/-- the cup's cell ahead of all others -/
def Cup (R h : MH) : Prop := ∃ a b : Nat, b < 2 ^ 32 ∧ h = .lst [.int (a : Int), .int (b : Int)] :: R
section
variable {n : Nat} {R h : MH}
theorem cup_get {a b : MV} : (MC.lst [a, b] :: R)[0]? = some (.lst [a, b]) := rfl
theorem ix_cup0 {a b : MV} : ixV (.ref 0) (.int 0) (.lst [a, b] :: R) = .ok a (.lst [a, b] :: R) := by
  show (match (some [a, b]).bind (L2.atI · 0) with | some v => Res.ok v _ | none => .bad) = _
  rw [Option.bind_some, at_0]
theorem ix_cup1 {a b : MV} : ixV (.ref 0) (.int 1) (.lst [a, b] :: R) = .ok b (.lst [a, b] :: R) := by
  show (match (some [a, b]).bind (L2.atI · 1) with | some v => Res.ok v _ | none => .bad) = _
  rw [Option.bind_some, at_1]
theorem set_cup0 {a b : MV} (v : Int) : setIx (.ref 0) (.int 0) (.int v) (.lst [a, b] :: R) = .ok () (.lst [.int v, b] :: R) := rfl
theorem set_cup1 {a b : MV} (v : Int) : setIx (.ref 0) (.int 1) (.int v) (.lst [a, b] :: R) = .ok () (.lst [a, .int v] :: R) := rfl
theorem sp_roll (hn : 1 ≤ n) (C : Cup R h) (many : Nat) (h0 : 0 < many) (h1 : many ≤ 10 ^ 6) : ∃ (r : Nat) (h' : MH), callK none T n 41 [.ref 0, .int (many : Int)] h = .ok (natM r) h' ∧ r < many ∧ Cup R h' := by
  obtain ⟨a, b, hb, rfl⟩ := C
  rw [call_at T__law_roll hn]
  have sm : Sm (many : Int) := small_nat (k := 20) (by omega) (by omega)
  have d1 : divOk (a : Int) (many : Int) = true := div_ok (by omega) sm
  by_cases c : 0 < a
  · refine ⟨a % many, .lst [.int ((a / many : Nat) : Int), .int (b : Int)] :: R, ?_, Nat.mod_lt _ h0, a / many, b, hb, rfl⟩
    have hm : decide (0 < (many : Int)) = true := decide_eq_true (by omega)
    simp [runFn, fn__law_roll, b__law_roll, finFn, evSs, evS, evE, evEs, evB, evT, ix_cup0, c, h0, d1, set_cup0, natM]
  · have a0 : a = 0 := by omega
    subst a0
    have sb : Sm (b : Int) := small_nat (k := 32) hb (by omega)
    have m1 : mulOk (b : Int) 31123 = true := mul_ok sb (small_nat (n := 31123) (k := 20) (by omega) (by omega))
    have l2 : (b * 31123 + 8081) % 2147483323 < 2 ^ 32 := Nat.lt_of_lt_of_le (Nat.mod_lt _ (by omega)) (by decide)
    have e2 : (((b : Int) * 31123 + 8081) % 2147483323) = (((b * 31123 + 8081) % 2147483323 : Nat) : Int) := by simp
    generalize hb2 : (b * 31123 + 8081) % 2147483323 = b2 at *
    have m2 : mulOk (b2 : Int) ((b2 : Int) + 271) = true := mul_ok (small_nat (k := 32) l2 (by omega)) (small_nat (n := b2 + 271) (k := 33) (by omega) (by omega))
    have d2 : divOk ((b2 : Int) * ((b2 : Int) + 271) % 2147483587) 863 = true := div_ok (by omega) (small_nat (n := 863) (k := 20) (by omega) (by omega))
    refine ⟨(b2 * (b2 + 271) % 2147483587 / 863) % many, .lst [.int 0, .int (b2 : Int)] :: R, ?_, Nat.mod_lt _ h0, 0, b2, l2, rfl⟩
    simp [runFn, fn__law_roll, b__law_roll, finFn, evSs, evS, evE, evEs, evB, evT, ix_cup0, ix_cup1, h0, m1, set_cup1, e2, m2, d2, natM]
theorem sp_some (hn : 2 ≤ n) (C : Cup R h) (xs : List MV) (h0 : xs ≠ []) (h1 : xs.length ≤ 10 ^ 6) : ∃ (x : MV) (h' : MH), callK none T n 42 [.ref 0, .lst xs] h = .ok x h' ∧ x ∈ xs ∧ Cup R h' := by
  rw [call_at T__law_some (by omega)]
  have hp : 0 < xs.length := List.length_pos_iff.mpr h0
  obtain ⟨r, h', q, hr, C'⟩ := sp_roll (n := n - 1) (by omega) C xs.length hp h1
  refine ⟨xs[r], h', ?_, List.getElem_mem hr, C'⟩
  have e : L2.atI xs (r : Int) = some xs[r] := at_n _ r _ (List.getElem?_eq_getElem hr)
  unfold natM at q
  simp [runFn, fn__law_some, b__law_some, finFn, evSs, evS, evE, evEs, q, e]
theorem sp_post (hn : 3 ≤ n) (C : Cup R h) : ∃ (p : Post) (h' : MH), callK none T n 85 [.ref 0] h = .ok p.mv h' ∧ p ∈ lawPosts ∧ Cup R h' := by
  rw [call_at T__law_post (by omega)]
  obtain ⟨r, h1, q1, hr, C1⟩ := sp_roll (n := n - 1) (by omega) C 4 (by omega) (by omega)
  unfold natM at q1
  by_cases c : r = 0
  · subst c
    obtain ⟨x, h2, q2, hx, C2⟩ := sp_some (n := n - 1) (by omega) C1 [.tup [.str "middle"], .tup [.str "root"]] (by simp) (by simp)
    have e : callK none T n 85 [.ref 0] h = .ok x h2 := by
      rw [call_at T__law_post (by omega)]
      simp at q1
      simp [runFn, fn__law_post, b__law_post, finFn, evSs, evS, evE, evEs, evB, evF, q1, q2]
    rw [call_at T__law_post (by omega)] at e
    simp at hx
    rcases hx with hx | hx
    · exact ⟨.middle, h2, by rw [e, hx]; rfl, by simp [lawPosts], C2⟩
    · exact ⟨.root, h2, by rw [e, hx]; rfl, by simp [lawPosts], C2⟩
  · obtain ⟨x, h2, q2, hx, C2⟩ := sp_some (n := n - 1) (by omega) C1 [.tup [.int 1, .int 2], .tup [.int 1, .int 2], .tup [.int 1, .int 1], .tup [.int 0, .int 1], .tup [.int 1, .int 3], .tup [.int 2, .int 5], .tup [.int 7, .int 10]] (by simp) (by simp)
    have e : callK none T n 85 [.ref 0] h = .ok (.tup [.str "plus", x]) h2 := by
      rw [call_at T__law_post (by omega)]
      simp at q1
      simp [runFn, fn__law_post, b__law_post, finFn, evSs, evS, evE, evEs, evB, evF, q1, q2, c]
    rw [call_at T__law_post (by omega)] at e
    simp at hx
    rcases hx with hx | hx | hx | hx | hx | hx
    · exact ⟨.plus 1 2, h2, by rw [e, hx]; rfl, by simp [lawPosts], C2⟩
    · exact ⟨.plus 1 1, h2, by rw [e, hx]; rfl, by simp [lawPosts], C2⟩
    · exact ⟨.plus 0 1, h2, by rw [e, hx]; rfl, by simp [lawPosts], C2⟩
    · exact ⟨.plus 1 3, h2, by rw [e, hx]; rfl, by simp [lawPosts], C2⟩
    · exact ⟨.plus 2 5, h2, by rw [e, hx]; rfl, by simp [lawPosts], C2⟩
    · exact ⟨.plus 7 10, h2, by rw [e, hx]; rfl, by simp [lawPosts], C2⟩
theorem r1_evN (G : MM.Callee) (m : ME) (e : MEnv) (h h1 : MH) (k : Nat) (q : evE G m e h = .ok (.int (k : Int)) h1) (hk : k ≤ 1000000) : evI G (.range1 m) e h = .ok ⟨(List.range k).map fun (i : Nat) => MV.int ((0 : Int) + (i : Int)), none⟩ h1 := r1_ev G m e h h1 k q hk
theorem claim_elt (hn : 3 ≤ n) (C : Cup R h) (x0 x1 : Option MV) : ∃ (k : Nat) (h' : MH), evE (callK none T (n - 1)) (.call 42 (.cons (.var 0) (.cons (.fr (.disp (.cons (.int 0) (.cons (.int 1) (.cons (.int 2) (.cons (.int 3) (.cons (.int 5) (.cons (.int 10) (.cons (.int 30) (.cons (.call 41 (.cons (.var 0) (.cons (.int 100) .nil))) (.cons (.bin .pow (.int 10) (.int 6)) (.cons (.call 41 (.cons (.var 0) (.cons (.bin .pow (.int 10) (.int 6)) .nil))) .nil)))))))))))) .nil))) [some (.ref 0), x0, x1] h = .ok (natM k) h' ∧ k ≤ 10 ^ 6 ∧ Cup R h' := by
  obtain ⟨r1, h3, q1, l1, C3⟩ := sp_roll (n := n - 1) (by omega) C 100 (by omega) (by omega)
  obtain ⟨r2, h4, q2, l2, C4⟩ := sp_roll (n := n - 1) (by omega) C3 1000000 (by omega) (by omega)
  obtain ⟨y, h5, q3, hy, C5⟩ := sp_some (n := n - 1) (by omega) C4 ([0, 1, 2, 3, 5, 10, 30, r1, 1000000, r2].map natM) (by simp) (by simp)
  have pk : powOk 10 6 = true := by decide
  have ev : evE (callK none T (n - 1)) (.call 42 (.cons (.var 0) (.cons (.fr (.disp (.cons (.int 0) (.cons (.int 1) (.cons (.int 2) (.cons (.int 3) (.cons (.int 5) (.cons (.int 10) (.cons (.int 30) (.cons (.call 41 (.cons (.var 0) (.cons (.int 100) .nil))) (.cons (.bin .pow (.int 10) (.int 6)) (.cons (.call 41 (.cons (.var 0) (.cons (.bin .pow (.int 10) (.int 6)) .nil))) .nil)))))))))))) .nil))) [some (.ref 0), x0, x1] h = .ok y h5 := by
    simp only [List.map_cons, List.map_nil] at q3
    unfold natM at q1 q2 q3
    simp at q1 q2 q3
    simp [evE, evEs, evF, q1, q2, q3, pk]
  obtain ⟨k, hk, rfl⟩ := List.mem_map.mp hy
  refine ⟨k, h5, ev, ?_, C5⟩
  simp only [List.mem_cons, List.not_mem_nil, or_false] at hk
  omega
theorem sp_claims (hn : 3 ≤ n) (C : Cup R h) (many : Nat) (h1 : many ≤ 1000) : ∃ (cl : List Nat) (h' : MH), callK none T n 86 [.ref 0, .int (many : Int)] h = .ok (.tup (cl.map natM)) h' ∧ cl.length = many ∧ (∀ c ∈ cl, c ≤ 10 ^ 6) ∧ Cup R h' := by
  rw [call_at T__law_claims (by omega)]
  have ev := r1_evN (callK none T (n - 1)) (.var 1) [some (.ref 0), some (.int (many : Int)), none] h h many (by simp [evE]) (by omega)
  obtain ⟨cl, h', q, C', hl, hP⟩ := comp_st (G := callK none T (n - 1)) (own := [2]) (tg := .nm 2) (it := .range1 (.var 1)) (elt := .call 42 (.cons (.var 0) (.cons (.fr (.disp (.cons (.int 0) (.cons (.int 1) (.cons (.int 2) (.cons (.int 3) (.cons (.int 5) (.cons (.int 10) (.cons (.int 30) (.cons (.call 41 (.cons (.var 0) (.cons (.int 100) .nil))) (.cons (.bin .pow (.int 10) (.int 6)) (.cons (.call 41 (.cons (.var 0) (.cons (.bin .pow (.int 10) (.int 6)) .nil))) .nil)))))))))))) .nil))) (e := [some (.ref 0), some (.int (many : Int)), none]) (h := h)
    (List.range many) (fun (i : Nat) => MV.int ((0 : Int) + (i : Int))) natM (Cup R) (fun _ y => y ≤ 10 ^ 6) ev C (fun x hx h2 C2 => by
      obtain ⟨k, h5, q, hk, C5⟩ := claim_elt hn C2 (some (.int (many : Int))) (some (MV.int ((0 : Int) + (x : Int))))
      exact ⟨[some (.ref 0), some (.int (many : Int)), some (MV.int ((0 : Int) + (x : Int)))], h5, k, rfl, q, hk, C5⟩) (by simp; omega)
  refine ⟨cl, h', ?_, by rw [hl, List.length_range], fun c hc => ?_, C'⟩
  · have q' : evF (callK none T (n - 1)) c0__law_claims [some (.ref 0), some (.int (many : Int)), none] h = .ok (cl.map natM) h' := q
    have e1 : evSs none (callK none T (n - 1)) b__law_claims [some (.ref 0), some (.int (many : Int)), none] h = .ok (.rt (.tup (cl.map natM)), [some (.ref 0), some (.int (many : Int)), none]) h' := by
      simp only [b__law_claims, evSs, evS, evE, evEs, q', Res.bind_ok, bi_tup_l]
    rw [run_eq (f := fn__law_claims) (e := [some (.ref 0), some (.int (many : Int)), none]) (b := b__law_claims) (c := false) rfl rfl rfl rfl, e1]
    rfl
  · obtain ⟨i, hi, rfl⟩ := List.getElem_of_mem hc
    exact hP i i cl[i] (by rw [hl] at hi; rw [List.getElem?_eq_getElem hi, List.getElem_range]) (List.getElem?_eq_getElem _)
theorem sp_rule (hn : 4 ≤ n) (C : Cup R h) : ∃ (r : Rule) (h' : MH), callK none T n 92 [.ref 0] h = .ok r.mv h' ∧ r ∈ lawRules ∧ Cup R h' := by
  obtain ⟨p1, h1, q1, m1, C1⟩ := sp_post (n := n - 1) (by omega) C
  obtain ⟨p2, h2, q2, m2, C2⟩ := sp_post (n := n - 1) (by omega) C1
  obtain ⟨p3, h3, q3, m3, C3⟩ := sp_post (n := n - 1) (by omega) C2
  obtain ⟨x, h4, q4, m4, C4⟩ := sp_some (n := n - 1) (by omega) C3 [(Rule.right p1).mv, (Rule.right p2).mv, (Rule.kept p3).mv, Rule.rests.mv, Rule.rests.mv] (by simp) (by simp)
  have e : callK none T n 92 [.ref 0] h = .ok x h4 := by
    rw [call_at T__law_rule (by omega)]
    unfold Rule.mv at q4
    simp at q4
    simp [runFn, fn__law_rule, b__law_rule, finFn, evSs, evS, evE, evEs, evF, q1, q2, q3, q4]
  have rr : ∀ p ∈ lawPosts, Rule.right p ∈ lawRules := fun p hp => List.mem_cons_of_mem _ (List.mem_append_left _ (List.mem_map.mpr ⟨p, hp, rfl⟩))
  have rk : ∀ p ∈ lawPosts, Rule.kept p ∈ lawRules := fun p hp => List.mem_cons_of_mem _ (List.mem_append_right _ (List.mem_map.mpr ⟨p, hp, rfl⟩))
  simp only [List.mem_cons, List.not_mem_nil, or_false] at m4
  rcases m4 with m | m | m | m | m
  · exact ⟨.right p1, h4, by rw [e, m], rr p1 m1, C4⟩
  · exact ⟨.right p2, h4, by rw [e, m], rr p2 m2, C4⟩
  · exact ⟨.kept p3, h4, by rw [e, m], rk p3 m3, C4⟩
  · exact ⟨.rests, h4, by rw [e, m], List.mem_cons_self, C4⟩
  · exact ⟨.rests, h4, by rw [e, m], List.mem_cons_self, C4⟩
theorem sp_some_claims (hn : 4 ≤ n) (C : Cup R h) (most : Nat) (hm : 0 < most) (hm2 : most ≤ 900) : ∃ (cl : List Nat) (h' : MH), callK none T n 93 [.ref 0, .int (most : Int)] h = .ok (.tup (cl.map natM)) h' ∧ 0 < cl.length ∧ cl.length ≤ most ∧ (∀ c ∈ cl, c ≤ 10 ^ 6) ∧ Cup R h' := by
  obtain ⟨r, h1, q1, l1, C1⟩ := sp_roll (n := n - 1) (by omega) C most hm (by omega)
  obtain ⟨cl, h2, q2, l2, b2, C2⟩ := sp_claims (n := n - 1) (by omega) C1 (1 + r) (by omega)
  obtain ⟨y, h3, q3, m3, C3⟩ := sp_some (n := n - 1) (by omega) C2 ([1, 7, 1000000].map natM) (by simp) (by simp)
  obtain ⟨k, hk, rfl⟩ := List.mem_map.mp m3
  simp only [List.mem_cons, List.not_mem_nil, or_false] at hk
  -- the claims of 1 to 9
  obtain ⟨c2, h4, q4, C4, hl4, hP4⟩ := comp_st (G := callK none T (n - 1)) (own := [5]) (tg := .nm 5) (it := .seq (.var 3)) (elt := .bin .add (.int 1) (.call 41 (.cons (.var 0) (.cons (.int 9) .nil)))) (e := [some (.ref 0), some (.int (most : Int)), some (.int ((1 + r : Nat) : Int)), some (.tup (cl.map natM)), some (natM k), none]) (h := h3)
    cl natM natM (Cup R) (fun _ y => y ≤ 10 ^ 6) (by simp [evI, evE]) C3 (fun x hx h2 C2 => by
      obtain ⟨r, h5, q, hr, C5⟩ := sp_roll (n := n - 1) (by omega) C2 9 (by omega) (by omega)
      refine ⟨_, h5, 1 + r, rfl, ?_, by omega, C5⟩
      unfold natM at q ⊢
      simp at q
      simp [evE, evEs, wipeM, q]) (by omega)
  have b4 : ∀ c ∈ c2, c ≤ 10 ^ 6 := fun c hc => by
    obtain ⟨i, hi, rfl⟩ := List.getElem_of_mem hc
    rw [hl4] at hi
    exact hP4 i cl[i] c2[i] (List.getElem?_eq_getElem hi) (List.getElem?_eq_getElem _)
  obtain ⟨x, h5, q5, m5, C5⟩ := sp_some (n := n - 1) (by omega) C4 [.tup (cl.map natM), .tup (cl.map natM), .tup (c2.map natM), .tup ((List.replicate (1 + r) k).map natM)] (by simp) (by simp)
  have e : callK none T n 93 [.ref 0, .int (most : Int)] h = .ok x h5 := by
    rw [call_at T__law_some_claims (by omega)]
    have q4' : evF (callK none T (n - 1)) c0__law_some_claims [some (.ref 0), some (.int (most : Int)), some (.int ((1 + r : Nat) : Int)), some (.tup (cl.map natM)), some (natM k), none] h3 = .ok (c2.map natM) h4 := q4
    have pk : powOk 10 6 = true := by decide
    have e4 : (1 : Int) ≤ 1 + (r : Int) := by omega
    have e5 : 1 + (r : Int) ≤ 1000 := by omega
    have e6 : Nat.ble 1 1000 = true := rfl
    have e7 : (1 + (r : Int)).toNat = 1 + r := by omega
    rw [rep_M] at q5
    simp only [List.map_cons, List.map_nil] at q3
    have e8 : (((1 + r : Nat)) : Int) = 1 + (r : Int) := by omega
    rw [e8] at q2 q4'
    unfold natM at q1 q3 q4'
    simp at q3
    have q4'' : evF (callK none T (n - 1)) c0__law_some_claims [some (.ref 0), some (.int (most : Int)), some (.int (1 + (r : Int))), some (.tup (cl.map natM)), some (.int (k : Int)), none] h3 = .ok (c2.map natM) h4 := q4'
    simp [runFn, fn__law_some_claims, b__law_some_claims, finFn, evSs, evS, evE, evEs, evF, evT, q1, q2, q3, q4'', q5, pk, e4, e5, e6, e7, flat_rep]
  simp only [List.mem_cons, List.not_mem_nil, or_false] at m5
  rcases m5 with m | m | m | m
  · exact ⟨cl, h5, by rw [e, m], by omega, by omega, b2, C5⟩
  · exact ⟨cl, h5, by rw [e, m], by omega, by omega, b2, C5⟩
  · exact ⟨c2, h5, by rw [e, m], by omega, by omega, b4, C5⟩
  · exact ⟨List.replicate (1 + r) k, h5, by rw [e, m], by rw [List.length_replicate]; omega, by rw [List.length_replicate]; omega, fun c hc => by rw [List.eq_of_mem_replicate hc]; omega, C5⟩
end
end G
set_option Elab.async false
set_option linter.all false
set_option maxRecDepth 100000
/-! S19: the law of k42. -/
namespace G
open PySem MM
section
variable {n : Nat} {R h : MH}
theorem bits_log {z : Int} (h : Builtin.Int.intBits z ≤ 1048576) : z.natAbs < 2 ^ 1048576 := by
  unfold Builtin.Int.intBits at h
  by_cases c : z = 0
  · subst c
    exact Nat.pow_pos (by omega)
  · have e : (z == 0) = false := beq_eq_false_iff_ne.mpr c
    rw [e] at h
    simp only [Bool.false_eq_true, if_false] at h
    have c2 : z.natAbs ≠ 0 := by omega
    exact (Nat.log2_lt c2).mp (by omega)
theorem sp_cup (hn : 1 ≤ n) (ns : List Int) (hl : ns.length ≤ 63) (hb : ∀ z ∈ ns, Builtin.Int.intBits z ≤ 1048576) : ∃ h', callK none T n 40 [.scr (ns.map .int)] [] = .ok (.ref 0) h' ∧ Cup [] h' := by
  obtain ⟨z, hz, hzb⟩ : ∃ z : Int, L2.atI (ns.map MV.int ++ [MV.int 0]) 0 = some (.int z) ∧ z.natAbs < 2 ^ 1048576 := by
    cases ns with
    | nil => exact ⟨0, at_0 _ _, Nat.pow_pos (by omega)⟩
    | cons z r => exact ⟨z, at_0 _ _, bits_log (hb z List.mem_cons_self)⟩
  have lk : lenOk (ns.length + 1) = true := len_ok (by omega)
  have ea : (if z < 0 then -z else z) = (z.natAbs : Int) := by split <;> omega
  generalize z.natAbs = a at *
  have la := log2_le hzb
  have m1 : mulOk (a : Int) 331 = true := by
    unfold mulOk
    have : (331 : Int).natAbs.log2 ≤ 10 := by decide
    exact Nat.ble_eq_true_of_le (by rw [Int.natAbs_natCast]; omega)
  have pk : powOk 10 18 = true := by decide
  have d1 : divOk (a : Int) 103 = true := div_ok (by omega) (small_nat (n := 103) (k := 10) (by omega) (by omega))
  have l2 : (a * 331 + 3407) % 2077503041 + 199 < 2 ^ 32 := by have := Nat.mod_lt (a * 331 + 3407) (show 0 < 2077503041 by omega); omega
  have e2 : (((a : Int) * 331 + 3407) % 2077503041 + 199) = (((a * 331 + 3407) % 2077503041 + 199 : Nat) : Int) := by simp
  have tst : ∀ (e : MEnv), e[1]? = some (some (.int (a : Int))) → evB (callK none T (n - 1)) (.val (.cmp .ge (.var 1) (.bin .pow (.int 10) (.int 18)))) e [] = .ok (decide ((10 : Int) ^ (18 : Int).toNat ≤ (a : Int))) [] := fun e he => by
    generalize hK : (10 : Int) ^ (18 : Int).toNat = K
    simp only [evB, evE, he, Res.bind_ok, bv_pow, pk, okIf_true, hK, cv_ge, tr_bl]
  generalize hb : (a * 331 + 3407) % 2077503041 + 199 = b at *
  generalize decide ((10 : Int) ^ (18 : Int).toNat ≤ (a : Int)) = k at *
  have t2 := tst [some (.scr (ns.map .int)), some (.int (a : Int))] rfl
  cases k with
  | true =>
    refine ⟨[.lst [.int ((a / 103 : Nat) : Int), .int (b : Int)]], ?_, a / 103, _, l2, rfl⟩
    have e3 : ((a : Int) / 103) = ((a / 103 : Nat) : Int) := rfl
    rw [call_at T__law_cup hn, run_eq (f := fn__law_cup) (e := [some (.scr (ns.map .int)), none]) (b := b__law_cup) (c := false) rfl rfl rfl rfl]
    simp [b__law_cup, finFn, evSs, evS, evE, evEs, evF, evT, lk, hz, ea, m1, t2, d1, e2, fltL, flt]
  | false =>
    refine ⟨[.lst [.int ((0 : Nat) : Int), .int (b : Int)]], ?_, 0, _, l2, rfl⟩
    rw [call_at T__law_cup hn, run_eq (f := fn__law_cup) (e := [some (.scr (ns.map .int)), none]) (b := b__law_cup) (c := false) rfl rfl rfl rfl]
    simp [b__law_cup, finFn, evSs, evS, evE, evEs, evF, evT, lk, hz, ea, m1, t2, e2, fltL, flt]
end
end G
set_option Elab.async false
set_option linter.all false
set_option maxRecDepth 100000
/-! S20: the law of k42. -/
namespace G
open PySem MM
section
variable {n : Nat} {R h : MH}
theorem rows_by_len {r : Rule} (hr : r.Ok) {cl : List Nat} {house : Nat} {x : List Nat} (hx : x ∈ rowsBy r cl house) : x.length = cl.length ∧ x.sum = house := by
  unfold rowsBy at hx
  split at hx
  · cases hx
  · rename_i z
    cases r with
    | rests =>
      rcases Nat.eq_zero_or_pos cl.sum with c | c
      · have hz : house = 0 := by omega
        subst hz
        have e := rowsBy_zero (cl := cl) .rests trivial c
        unfold rowsBy at e
        rw [if_neg z] at e
        dsimp only at e hx
        rw [e, List.mem_singleton] at hx
        subst hx
        exact ⟨List.length_replicate, zeros_sum _⟩
      · obtain ⟨Q, hs⟩ := ((restsIn_spec cl house c).2 x).mp hx
        exact ⟨Q.len, hs⟩
    | right p =>
      obtain ⟨Q, hs⟩ := ((rowsIn_spec (deal_free hr) house).2 x).mp hx
      exact ⟨Q.len, hs⟩
    | kept p =>
      obtain ⟨Q, hs⟩ := ((rowsIn_spec (deal_kept hr) house).2 x).mp hx
      exact ⟨Q.len, hs⟩
theorem le_sum (k : Nat) : ∀ l : List Nat, k ∈ l → k ≤ l.sum := claim_le k
theorem rows_by_few {r : Rule} (hr : r.Ok) {cl : List Nat} (h6 : cl.length ≤ 6) {house : Nat} : (rowsBy r cl house).length ≤ 20 := by
  unfold rowsBy
  split
  · exact Nat.zero_le _
  · rename_i z
    cases r with
    | rests =>
      rcases Nat.eq_zero_or_pos cl.sum with c | c
      · have hz : house = 0 := by omega
        subst hz
        have e := rowsBy_zero (cl := cl) .rests trivial c
        unfold rowsBy at e
        rw [if_neg z] at e
        dsimp only at e ⊢
        rw [e]; exact (by decide : 1 ≤ 20)
      · rw [← rested_eq c]
        exact (rested_few c h6 _).1
    | right p => exact (rows_few (deal_free hr) h6 house).1
    | kept p => exact (rows_few (deal_kept hr) h6 house).1
/-- repr of rows -/
theorem repr_rows {r : Rule} (hr : r.Ok) {cl : List Nat} (h6 : cl.length ≤ 6) {house : Nat} (hh : house ≤ 1000) (h : MH) : reprV (.tup ((rowsBy r cl house).map rowM)) h = .ok (.str (sh (.tup ((rowsBy r cl house).map rowM)))) h ∧ strFine (sh (.tup ((rowsBy r cl house).map rowM))) = true := by
  have d := dat_rows 0 (rowsBy r cl house) fun x hx k hk => by
    have := (rows_by_len hr hx).2
    have := le_sum k x hk
    exact Nat.lt_of_le_of_lt (show k ≤ 1000 by omega) (by decide)
  have w := wt_rows 0 (rowsBy r cl house) 6 fun x hx => by rw [(rows_by_len hr hx).1]; exact h6
  have f := rows_by_few hr (cl := cl) h6 (house := house)
  have f2 := Nat.mul_le_mul_right (5 + 6 * 12) f
  exact ⟨repr_tup d (by omega) (by omega) h, sh_fine d⟩
def oddRules (p : MV) : List MV := [.non, .tup [], .str "rests", .tup [.str "rests", p], .tup [.str "right"], .tup [.str "kept"], .tup [.str "right", .tup [.str "plus", .tup [.int 3, .int 2]]], .tup [.str "kept", .non], .lst [.str "rests"], .tup [.str "Rests"], .tup [.non],
  .tup [.str "right", p, .int 1], .tup [.str "right", .lst (match p with | .tup xs => xs | _ => [])], .tup [.str "rest", p], .tup [.tup [.str "right"], p], .tup [.str "kept", .tup [.str "root", .int 1]], .tup [.str "right", .str "root"], .bl true]
theorem odd_k (h : MH) : ∀ p ∈ lawPosts, callK (some 50) T 5 94 [p.mv] h = .ok (.lst (oddRules p.mv)) h := by
  simp only [lawPosts, List.forall_mem_cons]
  refine ⟨?_, ?_, ?_, ?_, ?_, ?_, ?_, ?_, fun _ h => by cases h⟩ <;> kernel_rfl
theorem odd_k2 (h : MH) : ∀ p ∈ lawPosts, (oddRules p.mv).map (fun v => callK (some 50) T 8 83 [v] h) = (oddRules p.mv).map fun _ => .ok (.bl false) h := by
  simp only [lawPosts, List.forall_mem_cons]
  refine ⟨?_, ?_, ?_, ?_, ?_, ?_, ?_, ?_, fun _ h => by cases h⟩ <;> kernel_rfl
theorem sp_odd (hn : 5 ≤ n) {p : Post} (hp : p ∈ lawPosts) : callK none T n 94 [p.mv] h = .ok (.lst (oddRules p.mv)) h := callK_fuel (odd_k h p hp) (fun z => nomatch z) hn
theorem sp_odd_rule (hn : 8 ≤ n) {p : Post} (hp : p ∈ lawPosts) {v : MV} (hv : v ∈ oddRules p.mv) : callK none T n 83 [v] h = .ok (.bl false) h := callK_fuel (List.map_inj_left.mp (odd_k2 h p hp) v hv) (fun z => nomatch z) hn
def mkL (ns : List Int) (x2 x3 x4 x5 x6 x7 : Option MV) : MEnv := [some (.scr (ns.map .int)), some (.ref 0), x2, x3, x4, x5, x6, x7, none]
theorem law_turn (hn : 19 ≤ n) (ns : List Int) (C : Cup R h) (x2 x3 x4 x5 x6 : Option MV) : ∃ y3 y4 y5 y6 h', evSs none (callK none T (n - 1)) b0_law (mkL ns x2 x3 x4 x5 x6 none) h = .ok (.nx, mkL ns x2 y3 y4 y5 y6 none) h' ∧ Cup R h' := by
  obtain ⟨r, h1, q1, m1, C1⟩ := sp_rule (n := n - 1) (by omega) C
  obtain ⟨cl, h2, q2, l1, l2, b2, C2⟩ := sp_some_claims (n := n - 1) (by omega) C1 6 (by omega) (by omega)
  obtain ⟨hs, h3, q3, l3, C3⟩ := sp_roll (n := n - 1) (by omega) C2 13 (by omega) (by omega)
  have V : ClOk cl := ⟨b2, by omega⟩
  have q4 := sp_rows_by (n := n - 1) (h := h3) (cl := cl) (house := hs) (by omega) V (by omega) l1 (by omega) m1
  have q5 := sp_is_rule (n := n - 1) (h := h3) (by omega) m1
  have q6 := sp_law_rows (n := n - 1) (h := h3) (cl := cl) (house := hs) (by omega) V (by omega) l1 (by omega) m1
  obtain ⟨q7, f7⟩ := repr_rows (rule_ok m1) (cl := cl) l2 (house := hs) (by omega) h3
  have q8 := ne_self f7 h3
  refine ⟨some r.mv, some (.tup (cl.map natM)), some (natM hs), some (.tup ((rowsBy r cl hs).map rowM)), h3, ?_, C3⟩
  unfold natM at q3
  simp at q2 q3
  unfold mkL
  simp [b0_law, evSs, evS, evE, evEs, evT, evTs, evB, evAny, q1, q2, q3, q4, q5, q6, q7, q8, natM]
theorem law_loop (hn : 19 ≤ n) (ns : List Int) (C : Cup R h) : ∃ y2 y3 y4 y5 y6 h', evS none (callK none T (n - 1)) l0_law (mkL ns none none none none none none) h = .ok (.nx, mkL ns y2 y3 y4 y5 y6 none) h' ∧ Cup R h' := by
  have ev := r1_evN (callK none T (n - 1)) (.int 5) (mkL ns none none none none none none) h h 5 (by simp [evE]) (by omega)
  obtain ⟨e2, h2, q, y2, y3, y4, y5, y6, e, C2⟩ := for_inv (L := none) (G := callK none T (n - 1)) (t := .nm 2) (it := .range1 (.int 5)) (b := b0_law) (e := mkL ns none none none none none none) (h := h) (List.range 5) (fun (i : Nat) => MV.int ((0 : Int) + (i : Int)))
    (fun k e H => ∃ y2 y3 y4 y5 y6, e = mkL ns y2 y3 y4 y5 y6 none ∧ Cup R H) ev ⟨none, none, none, none, none, rfl, C⟩ (fun k x e H hx ⟨y2, y3, y4, y5, y6, he, C⟩ => by
      subst he
      obtain ⟨z3, z4, z5, z6, h', q, C'⟩ := law_turn hn ns C (some (MV.int ((0 : Int) + (x : Int)))) y3 y4 y5 y6
      exact ⟨_, _, h', rfl, q, _, z3, z4, z5, z6, rfl, C'⟩)
  subst e
  exact ⟨y2, y3, y4, y5, y6, h2, q, C2⟩
theorem law_odd (hn : 9 ≤ n) (ns : List Int) {p : Post} (hp : p ∈ lawPosts) (x2 x3 x4 x5 x6 : Option MV) : evF (callK none T (n - 1)) c0_law (mkL ns x2 x3 x4 x5 x6 (some p.mv)) h = .ok [] h := by
  have so := sp_odd (n := n - 1) (h := h) (by omega) hp
  have c := comp_map (G := callK none T (n - 1)) (own := [8]) (tg := .nm 8) (it := .seq (.call 94 (.cons (.var 7) .nil))) (c := .val (.notB false (.call 83 (.cons (.var 8) .nil)))) (elt := .var 8) (e := mkL ns x2 x3 x4 x5 x6 (some p.mv)) (h := h)
    (oddRules p.mv) id (fun _ => false) id (by simp [evI, evE, evEs, mkL, so]) (fun v hv => by
      have q := sp_odd_rule (n := n - 1) (h := h) (by omega) hp hv
      refine ⟨_, rfl, ?_, fun h => by cases h⟩
      simp [evB, evE, evEs, wipeM, mkL, q]) (by simp [oddRules])
  have e : ((oddRules p.mv).filter fun _ => false).map id = [] := by
    rw [List.filter_eq_nil_iff.mpr fun _ _ => Bool.false_ne_true]; rfl
  rw [e] at c
  exact c
end
end G
set_option Elab.async false
set_option linter.all false
set_option maxRecDepth 100000
/-! S21: the law of k42, put together. -/
namespace G
open PySem MM
section
variable {n : Nat} {R h : MH}
theorem one_claim {r : Rule} (hr : r.Ok) : rowsBy r [5] 400 = [[400]] := by
  unfold rowsBy
  rw [if_neg (by decide)]
  cases r with
  | rests => decide +kernel
  | right p =>
    obtain ⟨a1, a2⟩ := rowsIn_spec (deal_free (cl := [5]) hr) 400
    refine asc_ext _ _ a1 (List.pairwise_singleton _ _) fun x => ?_
    dsimp only
    rw [a2, List.mem_singleton]
    constructor
    · rintro ⟨Q, hs⟩
      have := Q.len
      match x, this with
      | [k], _ =>
        simp at hs
        subst hs
        rfl
    · intro e
      subst e
      refine ⟨⟨rfl, fun i hi => ?_, fun i hi _ => ?_, fun i hi ai => ?_, fun i j hi hj ai aj g b => ?_⟩, rfl⟩
      · rw [free_lo]; omega
      · have : i = 0 := by simp at hi; exact hi
        subst this
        rw [free_hi hi]
        exact Nat.le_refl _
      · have : i = 0 := by simp at hi; exact hi
        subst this
        cases ai
      · have : j = 0 := by simp at hj; exact hj
        subst this
        rw [free_hi hj] at b
        exact absurd b (by decide)
  | kept p =>
    have e : (qBounds [5] 400).map (·.1) = [400] := by decide +kernel
    have := rowsIn_base (deal_kept (cl := [5]) (house := 400) hr) (house := 400) (by rw [e]; rfl)
    rw [e] at this
    exact this
theorem two_zero {r : Rule} (hr : r.Ok) : rowsBy r [0, 0] 0 = [[0, 0]] := rowsBy_zero r hr rfl
theorem two_none (r : Rule) (k : Nat) : rowsBy r [0, 0] (1 + k) = [] := by
  unfold rowsBy
  rw [if_pos ⟨rfl, by omega⟩]
theorem l1_turn (hn : 19 ≤ n) (ns : List Int) (C : Cup R h) {r : Rule} (hr : r ∈ lawRules) (x2 x4 x5 x6 x7 : Option MV) : ∃ h', evSs none (callK none T (n - 1)) b1_law (mkL ns x2 (some r.mv) x4 x5 x6 x7) h = .ok (.nx, mkL ns x2 (some r.mv) x4 x5 x6 x7) h' ∧ Cup R h' := by
  obtain ⟨k, h1, q1, l1, C1⟩ := sp_roll (n := n - 1) (by omega) C 9 (by omega) (by omega)
  have V2 : ClOk [0, 0] := ⟨by decide, by decide⟩
  have V1 : ClOk [5] := ⟨by decide, by decide⟩
  have a1 := sp_rows_by (n := n - 1) (h := h) (cl := [0, 0]) (house := 0) (by simp; omega) V2 (by decide) (by decide) (by omega) hr
  have a2 := sp_rows_by (n := n - 1) (h := h1) (cl := [0, 0]) (house := 1 + k) (by simp; omega) V2 (by decide) (by decide) (by omega) hr
  have a3 := sp_rows_by (n := n - 1) (h := h1) (cl := [5]) (house := 400) (by simp; omega) V1 (by decide) (by decide) (by omega) hr
  rw [two_zero (rule_ok hr)] at a1
  rw [two_none] at a2
  rw [one_claim (rule_ok hr)] at a3
  refine ⟨h1, ?_, C1⟩
  have e8 : (((1 + k : Nat)) : Int) = 1 + (k : Int) := by omega
  rw [e8] at a2
  unfold natM rowM at *
  simp [natM] at a1 a2 a3 q1
  unfold mkL
  simp [b1_law, evSs, evS, evE, evEs, evB, evAny, a1, a2, a3, q1, cv_ne, shp, shpL, eqv, eqvL]
theorem l1_loop' (hn : 19 ≤ n) (ns : List Int) (C : Cup R h) {p : Post} (hp : p ∈ lawPosts) (x2 x3 x4 x5 x6 : Option MV) : ∃ y3 h', evS none (callK none T (n - 1)) l1_law (mkL ns x2 x3 x4 x5 x6 (some p.mv)) h = .ok (.nx, mkL ns x2 y3 x4 x5 x6 (some p.mv)) h' ∧ Cup R h' := by
  have rr : ∀ r ∈ [Rule.right p, Rule.kept p, Rule.rests], r ∈ lawRules := fun r hr => by
    simp only [List.mem_cons, List.not_mem_nil, or_false] at hr
    rcases hr with e | e | e
    · subst e; exact List.mem_cons_of_mem _ (List.mem_append_left _ (List.mem_map.mpr ⟨p, hp, rfl⟩))
    · subst e; exact List.mem_cons_of_mem _ (List.mem_append_right _ (List.mem_map.mpr ⟨p, hp, rfl⟩))
    · subst e; exact List.mem_cons_self
  obtain ⟨e2, h2, q, y3, e, C2⟩ := for_inv (L := none) (G := callK none T (n - 1)) (t := .nm 3) (it := .seq (.tup (.cons (.tup (.cons (.str "right") (.cons (.var 7) .nil))) (.cons (.tup (.cons (.str "kept") (.cons (.var 7) .nil))) (.cons (.tup (.cons (.str "rests") .nil)) .nil))))) (b := b1_law) (e := mkL ns x2 x3 x4 x5 x6 (some p.mv)) (h := h) [Rule.right p, Rule.kept p, Rule.rests] Rule.mv
    (fun k e H => ∃ y3, e = mkL ns x2 y3 x4 x5 x6 (some p.mv) ∧ Cup R H) (by simp [evI, evE, evEs, mkL, Rule.mv]) ⟨x3, rfl, C⟩ (fun k r e H hx ⟨y3, he, C⟩ => by
      subst he
      obtain ⟨h', q, C'⟩ := l1_turn hn ns C (rr r (List.mem_of_getElem? hx)) x2 x4 x5 x6 (some p.mv)
      exact ⟨_, _, h', rfl, q, _, rfl, C'⟩)
  subst e
  exact ⟨y3, h2, q, C2⟩
theorem seventy1 : (rowsBy .rests (List.replicate 8 3) 4).length = 70 := by decide +kernel
theorem seventy2 : (rowsBy (.right (.plus 1 2)) (List.replicate 8 3) 4).length = 70 := by decide +kernel
theorem law_end (hn : 20 ≤ n) (e : MEnv) : evE (callK none T (n - 1)) (.and_ (.cons (.cmp .eq (.bi .len (.cons (.call 84 (.cons (.tup (.cons (.str "rests") .nil)) (.cons (.bin .mul (.tup (.cons (.int 3) .nil)) (.int 8)) (.cons (.int 4) .nil)))) .nil)) (.int 70)) (.cons (.cmp .eq (.bi .len (.cons (.call 84 (.cons (.tup (.cons (.str "right") (.cons (.tup (.cons (.str "plus") (.cons (.tup (.cons (.int 1) (.cons (.int 2) .nil))) .nil))) .nil))) (.cons (.bin .mul (.tup (.cons (.int 3) .nil)) (.int 8)) (.cons (.int 4) .nil)))) .nil)) (.int 70)) .nil))) e h = .ok (.bl true) h := by
  have V : ClOk (List.replicate 8 3) := ⟨by decide, by decide⟩
  have a1 := sp_rows_by (n := n - 1) (h := h) (cl := List.replicate 8 3) (house := 4) (by simp; omega) V (by decide) (by decide) (by omega) (r := .rests) List.mem_cons_self
  have a2 := sp_rows_by (n := n - 1) (h := h) (cl := List.replicate 8 3) (house := 4) (by simp; omega) V (by decide) (by decide) (by omega) (r := .right (.plus 1 2)) (List.mem_cons_of_mem _ (List.mem_append_left _ (List.mem_map.mpr ⟨.plus 1 2, by simp [lawPosts], rfl⟩)))
  have s1 := seventy1
  have s2 := seventy2
  generalize rowsBy .rests (List.replicate 8 3) 4 = A at *
  generalize rowsBy (.right (.plus 1 2)) (List.replicate 8 3) 4 = B at *
  have r8 : (List.replicate 8 3).map natM = [.int 3, .int 3, .int 3, .int 3, .int 3, .int 3, .int 3, .int 3] := by simp [natM]
  rw [r8] at a1 a2
  have m8 : binV .mul (.tup [.int 3]) (.int 8) h = .ok (.tup [.int 3, .int 3, .int 3, .int 3, .int 3, .int 3, .int 3, .int 3]) h := rfl
  unfold Rule.mv at a1 a2
  unfold Post.mv at a2
  simp at a1 a2
  simp only [evE, evEs, evAnd, Res.bind_ok, m8]
  simp [a1, a2, s1, s2, show Nat.ble 1 1000 = true from rfl]
theorem law_true (ns : List Int) (hl : ns.length ≤ 63) (hb : ∀ z ∈ ns, Builtin.Int.intBits z ≤ 1048576) : ∃ h', callK none T 20 95 [.scr (ns.map .int)] [] = .ok (.bl true) h' := by
  obtain ⟨h1, q1, C1⟩ := sp_cup (n := 19) (by omega) ns hl hb
  obtain ⟨y2, y3, y4, y5, y6, h2, q2, C2⟩ := law_loop (n := 20) (by omega) ns C1
  obtain ⟨p, h3, q3, m3, C3⟩ := sp_post (n := 19) (by omega) C2
  have q4 := law_odd (n := 20) (h := h3) (by omega) ns m3 y2 y3 y4 y5 y6
  obtain ⟨z3, h4, q5, C4⟩ := l1_loop' (n := 20) (by omega) ns C3 m3 y2 y3 y4 y5 y6
  refine ⟨h4, ?_⟩
  rw [call_at T_law (by omega), run_eq (f := fn_law) (e := [some (.scr (ns.map .int)), none, none, none, none, none, none, none, none]) (b := b_law) (c := false) rfl rfl rfl rfl]
  have q6 := fun e => law_end (n := 20) (h := h4) (by omega) e
  unfold mkL at q2 q4 q5
  simp only [Nat.add_one_sub_one, Nat.reduceSub] at q2 q4 q5 q6 ⊢
  have q4' : evB (callK none T 19) (.val (.cmp .ne (.fr c0_law) (.fr (.disp .nil)))) [some (.scr (ns.map .int)), some (.ref 0), y2, y3, y4, y5, y6, some p.mv, none] h3 = .ok false h3 := by
    simp [evB, evE, evF, evEs, q4, cv_ne, shp, shpL, eqv, eqvL]
  have s1 : evS none (callK none T 19) (.asg (.nm 1) (.call 40 (.cons (.var 0) .nil))) [some (.scr (ns.map .int)), none, none, none, none, none, none, none, none] [] = .ok (.nx, [some (.scr (ns.map .int)), some (.ref 0), none, none, none, none, none, none, none]) h1 := by
    simp [evS, evE, evEs, evT, q1]
  have s3 : evS none (callK none T 19) (.asg (.nm 7) (.call 85 (.cons (.var 1) .nil))) [some (.scr (ns.map .int)), some (.ref 0), y2, y3, y4, y5, y6, none, none] h2 = .ok (.nx, [some (.scr (ns.map .int)), some (.ref 0), y2, y3, y4, y5, y6, some p.mv, none]) h3 := by
    simp [evS, evE, evEs, evT, q3]
  have s4 : evS none (callK none T 19) (.ifS (.val (.cmp .ne (.fr c0_law) (.fr (.disp .nil)))) [(.ret (.bl false))] []) [some (.scr (ns.map .int)), some (.ref 0), y2, y3, y4, y5, y6, some p.mv, none] h3 = .ok (.nx, [some (.scr (ns.map .int)), some (.ref 0), y2, y3, y4, y5, y6, some p.mv, none]) h3 := by
    rw [evS, q4']
    simp [evSs]
  simp only [b_law, evSs, s1, q2, s3, s4, q5, Res.bind_ok]
  simp only [evS, q6, Res.bind_ok, finFn]
  simp
end
end G
set_option Elab.async false
set_option linter.all false
set_option maxRecDepth 100000
set_option maxHeartbeats 0
namespace G
open PySem PySem.Spec PyProof.Rows L2 MM
def topS (i : Nat) : Stmt := PySem.Challenge.pw_seattable_k42_rules_and_their_rows.main.body.getD i (.Pass ⟨0, 0, 0, 0⟩)
structure Env (K : PySem.W.Frag) (mg : Str → Option Value) : Prop where
  z_abs : mg "abs" = none
  z_all : mg "all" = none
  z_bool : mg "bool" = none
  z_enumerate : mg "enumerate" = none
  z_int : mg "int" = none
  z_isinstance : mg "isinstance" = none
  z_len : mg "len" = none
  z_list : mg "list" = none
  z_max : mg "max" = none
  z_range : mg "range" = none
  z_repr : mg "repr" = none
  z_set : mg "set" = none
  z_sorted : mg "sorted" = none
  z_str : mg "str" = none
  z_sum : mg "sum" = none
  z_tuple : mg "tuple" = none
  g_CLAIM : GV K mg "CLAIM" g_CLAIM
  g_CLAIMS : GV K mg "CLAIMS" g_CLAIMS
  g_ONE : GV K mg "ONE" g_ONE
  g_SEATS : GV K mg "SEATS" g_SEATS
  g_ZERO : GV K mg "ZERO" g_ZERO
  e_InvalidClaims : ErrC K mg "InvalidClaims"
  e_InvalidNumber : ErrC K mg "InvalidNumber"
  e_InvalidRule : ErrC K mg "InvalidRule"
  e_NoQuotas : ErrC K mg "NoQuotas"
structure Cals (P : Program) (w : World) (K : PySem.W.Frag) (mg : Str → Option Value) (base : Heap) (L : Option Nat) (k : Nat) : Prop where
  c_is_whole : Cal P w K mg base k (callK L T k) 0 "is_whole"
  c_is_integer : Cal P w K mg base k (callK L T k) 1 "is_integer"
  c_is_tuple_of : Cal P w K mg base k (callK L T k) 2 "is_tuple_of"
  c_common_divisor : Cal P w K mg base k (callK L T k) 3 "common_divisor"
  c_fits_ratio : Cal P w K mg base k (callK L T k) 4 "fits_ratio"
  c_made : Cal P w K mg base k (callK L T k) 5 "made"
  c_compared : Cal P w K mg base k (callK L T k) 10 "compared"
  c_fits_post : Cal P w K mg base k (callK L T k) 11 "fits_post"
  c_square_of : Cal P w K mg base k (callK L T k) 65 "square_of"
  c_need_number : Cal P w K mg base k (callK L T k) 66 "need_number"
  c_fits_claims : Cal P w K mg base k (callK L T k) 67 "fits_claims"
  c_sign_between : Cal P w K mg base k (callK L T k) 68 "sign_between"
  c_greatest_next : Cal P w K mg base k (callK L T k) 69 "greatest_next"
  c_least_given : Cal P w K mg base k (callK L T k) 70 "least_given"
  c_with_more : Cal P w K mg base k (callK L T k) 71 "with_more"
  c_one_in : Cal P w K mg base k (callK L T k) 72 "one_in"
  c_rows_in : Cal P w K mg base k (callK L T k) 73 "rows_in"
  c_need_claims : Cal P w K mg base k (callK L T k) 74 "need_claims"
  c_need_house : Cal P w K mg base k (callK L T k) 75 "need_house"
  c_quotas_in : Cal P w K mg base k (callK L T k) 76 "quotas_in"
  c_whole_of : Cal P w K mg base k (callK L T k) 77 "whole_of"
  c_bounds_by : Cal P w K mg base k (callK L T k) 78 "bounds_by"
  c_rests_in : Cal P w K mg base k (callK L T k) 79 "rests_in"
  c_fits_rule : Cal P w K mg base k (callK L T k) 80 "fits_rule"
  c_rows_of : Cal P w K mg base k (callK L T k) 81 "rows_of"
  c_need_rule : Cal P w K mg base k (callK L T k) 82 "need_rule"
  c_is_rule : Cal P w K mg base k (callK L T k) 83 "is_rule"
  c_rows_by : Cal P w K mg base k (callK L T k) 84 "rows_by"
  c__law_cup : Cal P w K mg base k (callK L T k) 40 "_law_cup"
  c__law_roll : Cal P w K mg base k (callK L T k) 41 "_law_roll"
  c__law_some : Cal P w K mg base k (callK L T k) 42 "_law_some"
  c__law_post : Cal P w K mg base k (callK L T k) 85 "_law_post"
  c__law_claims : Cal P w K mg base k (callK L T k) 86 "_law_claims"
  c__law_plain_square : Cal P w K mg base k (callK L T k) 87 "_law_plain_square"
  c__law_ahead : Cal P w K mg base k (callK L T k) 88 "_law_ahead"
  c__law_grown : Cal P w K mg base k (callK L T k) 89 "_law_grown"
  c__law_rested : Cal P w K mg base k (callK L T k) 90 "_law_rested"
  c__law_rows : Cal P w K mg base k (callK L T k) 91 "_law_rows"
  c__law_rule : Cal P w K mg base k (callK L T k) 92 "_law_rule"
  c__law_some_claims : Cal P w K mg base k (callK L T k) 93 "_law_some_claims"
  c__law_odd_rules : Cal P w K mg base k (callK L T k) 94 "_law_odd_rules"
  c_law : Cal P w K mg base k (callK L T k) 95 "law"
section
variable {P : Program} {w : World} {K : PySem.W.Frag} {mg : Str → Option Value} {base : Heap} {L : Option Nat} {k : Nat}
abbrev st_is_whole : Stmt := topS 9
theorem sc_is_whole : FnScope ["value", "low", "high"] ["value", "low", "high"] (defScope st_is_whole) := ⟨rfl, rfl, rfl, by decide +kernel, rfl, by decide +kernel, by decide +kernel⟩
theorem ok_is_whole {f : Addr} {fd : FuncData} (F : L2.Fun K "is_whole" "is_whole" st_is_whole f fd) (Z : Env K mg) (C : Cals P w K mg base L k) : FnG P w K mg base (k + 1) f fd ["value", "low", "high"] (spM K mg 3 (callK L T (k + 1) 0)) := by
  refine fn_okM (fn := fn_is_whole) F sc_is_whole T_is_whole rfl rfl fun cdv A outer s H E hr => ?_
  have hN := sc_is_whole.nd
  have tk : Takes (cxOf (L2.CX P w) P w K mg base ["value", "low", "high"] "is_whole" (defScope st_is_whole) f cdv A outer s H E) (wOf E) := takes_of rfl rfl rfl rfl
  exact (b_cons (b_ret (c_and (c_isi (t := .int) Z.z_isinstance Z.z_int (c_var 0)) (c_and (c_not (c_isi (t := .bool) Z.z_isinstance Z.z_bool (c_var 0))) (c_one (op := .And) (c_cmp2 hr (o1 := .le) (o2 := .le) (c_var 1) (c_var 0) (c_var 2))))))
    b_nil)
abbrev st_is_integer : Stmt := topS 10
theorem sc_is_integer : FnScope ["value"] ["value"] (defScope st_is_integer) := ⟨rfl, rfl, rfl, by decide +kernel, rfl, by decide +kernel, by decide +kernel⟩
theorem ok_is_integer {f : Addr} {fd : FuncData} (F : L2.Fun K "is_integer" "is_integer" st_is_integer f fd) (Z : Env K mg) (C : Cals P w K mg base L k) : FnG P w K mg base (k + 1) f fd ["value"] (spM K mg 1 (callK L T (k + 1) 1)) := by
  refine fn_okM (fn := fn_is_integer) F sc_is_integer T_is_integer rfl rfl fun cdv A outer s H E hr => ?_
  have hN := sc_is_integer.nd
  have tk : Takes (cxOf (L2.CX P w) P w K mg base ["value"] "is_integer" (defScope st_is_integer) f cdv A outer s H E) (wOf E) := takes_of rfl rfl rfl rfl
  exact (b_cons (b_ret (c_and (c_isi (t := .int) Z.z_isinstance Z.z_int (c_var 0)) (c_one (op := .And) (c_not (c_isi (t := .bool) Z.z_isinstance Z.z_bool (c_var 0))))))
    b_nil)
abbrev st_is_tuple_of : Stmt := topS 11
theorem sc_is_tuple_of : FnScope ["value", "low", "high"] ["value", "low", "high"] (defScope st_is_tuple_of) := ⟨rfl, rfl, rfl, by decide +kernel, rfl, by decide +kernel, by decide +kernel⟩
theorem ok_is_tuple_of {f : Addr} {fd : FuncData} (F : L2.Fun K "is_tuple_of" "is_tuple_of" st_is_tuple_of f fd) (Z : Env K mg) (C : Cals P w K mg base L k) : FnG P w K mg base (k + 1) f fd ["value", "low", "high"] (spM K mg 3 (callK L T (k + 1) 2)) := by
  refine fn_okM (fn := fn_is_tuple_of) F sc_is_tuple_of T_is_tuple_of rfl rfl fun cdv A outer s H E hr => ?_
  have hN := sc_is_tuple_of.nd
  have tk : Takes (cxOf (L2.CX P w) P w K mg base ["value", "low", "high"] "is_tuple_of" (defScope st_is_tuple_of) f cdv A outer s H E) (wOf E) := takes_of rfl rfl rfl rfl
  exact (b_cons (b_ret (c_and (c_isi (t := .tuple) Z.z_isinstance Z.z_tuple (c_var 0)) (c_one (op := .And) (c_cmp2 hr (o1 := .le) (o2 := .le) (c_var 1) (c_bi (b := .len) Z.z_len (c_cons (c_var 0) c_nil)) (c_var 2)))))
    b_nil)
abbrev st_common_divisor : Stmt := topS 12
theorem sc_common_divisor : FnScope ["one", "other"] ["one", "other"] (defScope st_common_divisor) := ⟨rfl, rfl, rfl, by decide +kernel, rfl, by decide +kernel, by decide +kernel⟩
theorem ok_common_divisor {f : Addr} {fd : FuncData} (F : L2.Fun K "common_divisor" "common_divisor" st_common_divisor f fd) (Z : Env K mg) (C : Cals P w K mg base L k) : FnG P w K mg base (k + 1) f fd ["one", "other"] (spM K mg 2 (callK L T (k + 1) 3)) := by
  refine fn_okM (fn := fn_common_divisor) F sc_common_divisor T_common_divisor rfl rfl fun cdv A outer s H E hr => ?_
  have hN := sc_common_divisor.nd
  have tk : Takes (cxOf (L2.CX P w) P w K mg base ["one", "other"] "common_divisor" (defScope st_common_divisor) f cdv A outer s H E) (wOf E) := takes_of rfl rfl rfl rfl
  exact (b_cons (b_par 0 1 hN (c_cons (c_bi (b := .abs) Z.z_abs (c_cons (c_var 0) c_nil)) (c_cons (c_bi (b := .abs) Z.z_abs (c_cons (c_var 1) c_nil)) c_nil)))
    (b_cons (b_whl (d_cmp hr (op := .ne) (c_var 1) c_int) (b_cons (b_par 0 1 hN (c_cons (c_var 1) (c_cons (c_bin (op := .mod) (c_var 0) (c_var 1)) c_nil)))
    b_nil))
    (b_cons (b_ret (c_var 0))
    b_nil)))
abbrev st_fits_ratio : Stmt := topS 13
theorem sc_fits_ratio : FnScope ["value"] ["value"] (defScope st_fits_ratio) := ⟨rfl, rfl, rfl, by decide +kernel, rfl, by decide +kernel, by decide +kernel⟩
theorem ok_fits_ratio {f : Addr} {fd : FuncData} (F : L2.Fun K "fits_ratio" "fits_ratio" st_fits_ratio f fd) (Z : Env K mg) (C : Cals P w K mg base L k) : FnG P w K mg base (k + 1) f fd ["value"] (spM K mg 1 (callK L T (k + 1) 4)) := by
  refine fn_okM (fn := fn_fits_ratio) F sc_fits_ratio T_fits_ratio rfl rfl fun cdv A outer s H E hr => ?_
  have hN := sc_fits_ratio.nd
  have tk : Takes (cxOf (L2.CX P w) P w K mg base ["value"] "fits_ratio" (defScope st_fits_ratio) f cdv A outer s H E) (wOf E) := takes_of rfl rfl rfl rfl
  exact (b_cons (b_if (PW.pt (w_or (d_not (d_val (c_call C.c_is_tuple_of hr tk (c_cons (c_var 0) (c_cons c_int (c_cons c_int c_nil)))))) (w_or (d_not (d_val (c_call C.c_is_integer hr tk (c_cons (c_ix (c_var 0) c_int) c_nil)))) (w_or1 (d_not (d_val (c_call C.c_is_integer hr tk (c_cons (c_ix (c_var 0) c_int) c_nil)))))))) (b_cons (b_ret c_bl)
    b_nil) b_nil)
    (b_cons (b_ret (c_and (c_cmp hr (op := .ge) (c_ix (c_var 0) c_int) c_int) (c_one (op := .And) (c_cmp hr (op := .eq) (c_call C.c_common_divisor hr tk (c_cons (c_ix (c_var 0) c_int) (c_cons (c_ix (c_var 0) c_int) c_nil))) c_int))))
    b_nil))
abbrev st_made : Stmt := topS 14
theorem sc_made : FnScope ["above", "below", "common"] ["above", "below"] (defScope st_made) := ⟨rfl, rfl, rfl, by decide +kernel, rfl, by decide +kernel, by decide +kernel⟩
theorem ok_made {f : Addr} {fd : FuncData} (F : L2.Fun K "made" "made" st_made f fd) (Z : Env K mg) (C : Cals P w K mg base L k) : FnG P w K mg base (k + 1) f fd ["above", "below"] (spM K mg 2 (callK L T (k + 1) 5)) := by
  refine fn_okM (fn := fn_made) F sc_made T_made rfl rfl fun cdv A outer s H E hr => ?_
  have hN := sc_made.nd
  have tk : Takes (cxOf (L2.CX P w) P w K mg base ["above", "below", "common"] "made" (defScope st_made) f cdv A outer s H E) (wOf E) := takes_of rfl rfl rfl rfl
  exact (b_cons (b_if (d_cmp hr (op := .lt) (c_var 1) c_int) (b_cons (b_par 0 1 hN (c_cons (c_neg (c_var 0)) (c_cons (c_neg (c_var 1)) c_nil)))
    b_nil) b_nil)
    (b_cons (b_set 2 hN (c_call C.c_common_divisor hr tk (c_cons (c_var 0) (c_cons (c_var 1) c_nil))))
    (b_cons (b_ret (c_tup (c_cons (c_bin (op := .fdiv) (c_var 0) (c_var 2)) (c_cons (c_bin (op := .fdiv) (c_var 1) (c_var 2)) c_nil))))
    b_nil)))
abbrev st_compared : Stmt := topS 15
theorem sc_compared : FnScope ["one", "other", "left", "right"] ["one", "other"] (defScope st_compared) := ⟨rfl, rfl, rfl, by decide +kernel, rfl, by decide +kernel, by decide +kernel⟩
theorem ok_compared {f : Addr} {fd : FuncData} (F : L2.Fun K "compared" "compared" st_compared f fd) (Z : Env K mg) (C : Cals P w K mg base L k) : FnG P w K mg base (k + 1) f fd ["one", "other"] (spM K mg 2 (callK L T (k + 1) 10)) := by
  refine fn_okM (fn := fn_compared) F sc_compared T_compared rfl rfl fun cdv A outer s H E hr => ?_
  have hN := sc_compared.nd
  have tk : Takes (cxOf (L2.CX P w) P w K mg base ["one", "other", "left", "right"] "compared" (defScope st_compared) f cdv A outer s H E) (wOf E) := takes_of rfl rfl rfl rfl
  exact (b_cons (b_par 2 3 hN (c_cons (c_bin (op := .mul) (c_ix (c_var 0) c_int) (c_ix (c_var 1) c_int)) (c_cons (c_bin (op := .mul) (c_ix (c_var 1) c_int) (c_ix (c_var 0) c_int)) c_nil)))
    (b_cons (b_ret (c_ite (d_cmp hr (op := .lt) (c_var 2) (c_var 3)) (c_neg c_int) (c_ite (d_cmp hr (op := .lt) (c_var 3) (c_var 2)) c_int c_int)))
    b_nil))
abbrev st_fits_post : Stmt := topS 17
theorem sc_fits_post : FnScope ["value"] ["value"] (defScope st_fits_post) := ⟨rfl, rfl, rfl, by decide +kernel, rfl, by decide +kernel, by decide +kernel⟩
theorem ok_fits_post {f : Addr} {fd : FuncData} (F : L2.Fun K "fits_post" "fits_post" st_fits_post f fd) (Z : Env K mg) (C : Cals P w K mg base L k) : FnG P w K mg base (k + 1) f fd ["value"] (spM K mg 1 (callK L T (k + 1) 11)) := by
  refine fn_okM (fn := fn_fits_post) F sc_fits_post T_fits_post rfl rfl fun cdv A outer s H E hr => ?_
  have hN := sc_fits_post.nd
  have tk : Takes (cxOf (L2.CX P w) P w K mg base ["value"] "fits_post" (defScope st_fits_post) f cdv A outer s H E) (wOf E) := takes_of rfl rfl rfl rfl
  exact (b_cons (b_if (PW.pt (w_or (d_cmp hr (op := .eq) (c_var 0) (c_tup (c_cons c_str c_nil))) (w_or1 (d_cmp hr (op := .eq) (c_var 0) (c_tup (c_cons c_str c_nil)))))) (b_cons (b_ret (c_call C.c_is_tuple_of hr tk (c_cons (c_var 0) (c_cons c_int (c_cons c_int c_nil)))))
    b_nil) b_nil)
    (b_cons (b_if (PW.pt (w_or (d_not (d_val (c_call C.c_is_tuple_of hr tk (c_cons (c_var 0) (c_cons c_int (c_cons c_int c_nil)))))) (w_or (d_not (d_val (c_isi (t := .str) Z.z_isinstance Z.z_str (c_ix (c_var 0) c_int)))) (w_or (d_cmp hr (op := .ne) (c_ix (c_var 0) c_int) c_str) (w_or1 (d_not (d_val (c_call C.c_fits_ratio hr tk (c_cons (c_ix (c_var 0) c_int) c_nil))))))))) (b_cons (b_ret c_bl)
    b_nil) b_nil)
    (b_cons (b_ret (c_and (c_cmp hr (op := .le) (c_call C.c_compared hr tk (c_cons (c_glb Z.g_ZERO) (c_cons (c_ix (c_var 0) c_int) c_nil))) c_int) (c_one (op := .And) (c_cmp hr (op := .le) (c_call C.c_compared hr tk (c_cons (c_ix (c_var 0) c_int) (c_cons (c_glb Z.g_ONE) c_nil))) c_int))))
    b_nil)))
abbrev st_square_of : Stmt := topS 18
theorem sc_square_of : FnScope ["post", "number", "above", "below"] ["post", "number"] (defScope st_square_of) := ⟨rfl, rfl, rfl, by decide +kernel, rfl, by decide +kernel, by decide +kernel⟩
theorem ok_square_of {f : Addr} {fd : FuncData} (F : L2.Fun K "square_of" "square_of" st_square_of f fd) (Z : Env K mg) (C : Cals P w K mg base L k) : FnG P w K mg base (k + 1) f fd ["post", "number"] (spM K mg 2 (callK L T (k + 1) 65)) := by
  refine fn_okM (fn := fn_square_of) F sc_square_of T_square_of rfl rfl fun cdv A outer s H E hr => ?_
  have hN := sc_square_of.nd
  have tk : Takes (cxOf (L2.CX P w) P w K mg base ["post", "number", "above", "below"] "square_of" (defScope st_square_of) f cdv A outer s H E) (wOf E) := takes_of rfl rfl rfl rfl
  exact (b_cons (b_if (d_cmp hr (op := .lt) (c_var 1) c_int) (b_cons (b_ret (c_glb Z.g_ZERO))
    b_nil) b_nil)
    (b_cons (b_if (d_cmp hr (op := .eq) (c_ix (c_var 0) c_int) c_str) (b_cons (b_ret (c_tup (c_cons (c_bin (op := .mul) (c_var 1) (c_bin (op := .add) (c_var 1) c_int)) (c_cons c_int c_nil))))
    b_nil) b_nil)
    (b_cons (b_if (d_cmp hr (op := .eq) (c_ix (c_var 0) c_int) c_str) (b_cons (b_ret (c_call C.c_made hr tk (c_cons (c_bin (op := .mul) (c_bin (op := .mul) c_int (c_bin (op := .pow) (c_var 1) c_int)) (c_bin (op := .pow) (c_bin (op := .add) (c_var 1) c_int) c_int)) (c_cons (c_bin (op := .pow) (c_bin (op := .add) (c_bin (op := .mul) c_int (c_var 1)) c_int) c_int) c_nil))))
    b_nil) b_nil)
    (b_cons (b_asg [2, 3] (c_ix (c_var 0) c_int) (l_tup (l_cons (l_nm 2 hN) (l_cons (l_nm 3 hN) l_nil))))
    (b_cons (b_ret (c_call C.c_made hr tk (c_cons (c_bin (op := .pow) (c_bin (op := .add) (c_bin (op := .mul) (c_var 1) (c_var 3)) (c_var 2)) c_int) (c_cons (c_bin (op := .pow) (c_var 3) c_int) c_nil))))
    b_nil)))))
abbrev st_need_number : Stmt := topS 19
theorem sc_need_number : FnScope ["value", "low", "high"] ["value", "low", "high"] (defScope st_need_number) := ⟨rfl, rfl, rfl, by decide +kernel, rfl, by decide +kernel, by decide +kernel⟩
theorem ok_need_number {f : Addr} {fd : FuncData} (F : L2.Fun K "need_number" "need_number" st_need_number f fd) (Z : Env K mg) (C : Cals P w K mg base L k) : FnG P w K mg base (k + 1) f fd ["value", "low", "high"] (spM K mg 3 (callK L T (k + 1) 66)) := by
  refine fn_okM (fn := fn_need_number) F sc_need_number T_need_number rfl rfl fun cdv A outer s H E hr => ?_
  have hN := sc_need_number.nd
  have tk : Takes (cxOf (L2.CX P w) P w K mg base ["value", "low", "high"] "need_number" (defScope st_need_number) f cdv A outer s H E) (wOf E) := takes_of rfl rfl rfl rfl
  exact (b_cons (b_if (d_not (d_val (c_call C.c_is_whole hr tk (c_cons (c_var 0) (c_cons (c_var 1) (c_cons (c_var 2) c_nil)))))) (b_cons (b_raise tk Z.e_InvalidNumber)
    b_nil) b_nil)
    b_nil)
abbrev st_fits_claims : Stmt := topS 24
theorem sc_fits_claims : FnScope ["value", "one"] ["value"] (defScope st_fits_claims) := ⟨rfl, rfl, rfl, by decide +kernel, rfl, by decide +kernel, by decide +kernel⟩
theorem ok_fits_claims {f : Addr} {fd : FuncData} (F : L2.Fun K "fits_claims" "fits_claims" st_fits_claims f fd) (Z : Env K mg) (C : Cals P w K mg base L k) : FnG P w K mg base (k + 1) f fd ["value"] (spM K mg 1 (callK L T (k + 1) 67)) := by
  refine fn_okM (fn := fn_fits_claims) F sc_fits_claims T_fits_claims rfl rfl fun cdv A outer s H E hr => ?_
  have hN := sc_fits_claims.nd
  have tk : Takes (cxOf (L2.CX P w) P w K mg base ["value", "one"] "fits_claims" (defScope st_fits_claims) f cdv A outer s H E) (wOf E) := takes_of rfl rfl rfl rfl
  exact (b_cons (b_ret (c_and (c_call C.c_is_tuple_of hr tk (c_cons (c_var 0) (c_cons c_int (c_cons (c_glb Z.g_CLAIMS) c_nil)))) (c_one (op := .And) (c_bi (b := .all) Z.z_all (c_cons (c_fr (c_comp [("one", 1)] hN (k_seq (c_var 0)) (fun _ _ _ _ _ => (l_nm 1 hN)) (fun _ _ _ _ _ => q_nil) (fun _ _ _ _ _ => (c_call C.c_is_whole hr takesF (c_cons (c_var 1) (c_cons c_int (c_cons (c_glb Z.g_CLAIM) c_nil))))))) c_nil)))))
    b_nil)
abbrev st_sign_between : Stmt := topS 25
theorem sc_sign_between : FnScope ["post", "claim", "seats", "other", "more", "one", "two"] ["post", "claim", "seats", "other", "more"] (defScope st_sign_between) := ⟨rfl, rfl, rfl, by decide +kernel, rfl, by decide +kernel, by decide +kernel⟩
theorem ok_sign_between {f : Addr} {fd : FuncData} (F : L2.Fun K "sign_between" "sign_between" st_sign_between f fd) (Z : Env K mg) (C : Cals P w K mg base L k) : FnG P w K mg base (k + 1) f fd ["post", "claim", "seats", "other", "more"] (spM K mg 5 (callK L T (k + 1) 68)) := by
  refine fn_okM (fn := fn_sign_between) F sc_sign_between T_sign_between rfl rfl fun cdv A outer s H E hr => ?_
  have hN := sc_sign_between.nd
  have tk : Takes (cxOf (L2.CX P w) P w K mg base ["post", "claim", "seats", "other", "more", "one", "two"] "sign_between" (defScope st_sign_between) f cdv A outer s H E) (wOf E) := takes_of rfl rfl rfl rfl
  exact (b_cons (b_par 5 6 hN (c_cons (c_call C.c_square_of hr tk (c_cons (c_var 0) (c_cons (c_var 2) c_nil))) (c_cons (c_call C.c_square_of hr tk (c_cons (c_var 0) (c_cons (c_var 4) c_nil))) c_nil)))
    (b_cons (b_if (PW.pt (w_or (d_cmp hr (op := .eq) (c_var 5) (c_glb Z.g_ZERO)) (w_or1 (d_cmp hr (op := .eq) (c_var 6) (c_glb Z.g_ZERO))))) (b_cons (b_ret (c_bin (op := .sub) (c_bi (b := .toInt) Z.z_int (c_cons (c_cmp hr (op := .eq) (c_var 5) (c_glb Z.g_ZERO)) c_nil)) (c_bi (b := .toInt) Z.z_int (c_cons (c_cmp hr (op := .eq) (c_var 6) (c_glb Z.g_ZERO)) c_nil))))
    b_nil) b_nil)
    (b_cons (b_ret (c_call C.c_compared hr tk (c_cons (c_tup (c_cons (c_bin (op := .mul) (c_bin (op := .pow) (c_var 1) c_int) (c_ix (c_var 5) c_int)) (c_cons (c_ix (c_var 5) c_int) c_nil))) (c_cons (c_tup (c_cons (c_bin (op := .mul) (c_bin (op := .pow) (c_var 3) c_int) (c_ix (c_var 6) c_int)) (c_cons (c_ix (c_var 6) c_int) c_nil))) c_nil))))
    b_nil)))
abbrev st_greatest_next : Stmt := topS 26
theorem sc_greatest_next : FnScope ["claims", "post", "bounds", "row", "best", "at", "claim"] ["claims", "post", "bounds", "row"] (defScope st_greatest_next) := ⟨rfl, rfl, rfl, by decide +kernel, rfl, by decide +kernel, by decide +kernel⟩
theorem ok_greatest_next {f : Addr} {fd : FuncData} (F : L2.Fun K "greatest_next" "greatest_next" st_greatest_next f fd) (Z : Env K mg) (C : Cals P w K mg base L k) : FnG P w K mg base (k + 1) f fd ["claims", "post", "bounds", "row"] (spM K mg 4 (callK L T (k + 1) 69)) := by
  refine fn_okM (fn := fn_greatest_next) F sc_greatest_next T_greatest_next rfl rfl fun cdv A outer s H E hr => ?_
  have hN := sc_greatest_next.nd
  have tk : Takes (cxOf (L2.CX P w) P w K mg base ["claims", "post", "bounds", "row", "best", "at", "claim"] "greatest_next" (defScope st_greatest_next) f cdv A outer s H E) (wOf E) := takes_of rfl rfl rfl rfl
  exact (b_cons (b_set 4 hN c_non)
    (b_cons (b_for [5, 6] (k_enum Z.z_enumerate (c_var 0)) (l_tup (l_cons (l_nm 5 hN) (l_cons (l_nm 6 hN) l_nil))) (b_cons (b_if (PW.pt (w_and (d_cmp hr (op := .gt) (c_var 6) c_int) (w_and1 (d_cmp hr (op := .lt) (c_ix (c_var 3) (c_var 5)) (c_ix (c_ix (c_var 2) (c_var 5)) c_int))))) (b_cons (b_if (PW.pt (w_or (d_isN (c_var 4)) (w_or1 (d_cmp hr (op := .gt) (c_call C.c_sign_between hr tk (c_cons (c_var 1) (c_cons (c_var 6) (c_cons (c_ix (c_var 3) (c_var 5)) (c_cons (c_ix (c_var 0) (c_var 4)) (c_cons (c_ix (c_var 3) (c_var 4)) c_nil)))))) c_int)))) (b_cons (b_set 4 hN (c_var 5))
    b_nil) b_nil)
    b_nil) b_nil)
    b_nil))
    (b_cons (b_ret (c_var 4))
    b_nil)))
abbrev st_least_given : Stmt := topS 27
theorem sc_least_given : FnScope ["claims", "post", "bounds", "row", "worst", "at", "claim"] ["claims", "post", "bounds", "row"] (defScope st_least_given) := ⟨rfl, rfl, rfl, by decide +kernel, rfl, by decide +kernel, by decide +kernel⟩
theorem ok_least_given {f : Addr} {fd : FuncData} (F : L2.Fun K "least_given" "least_given" st_least_given f fd) (Z : Env K mg) (C : Cals P w K mg base L k) : FnG P w K mg base (k + 1) f fd ["claims", "post", "bounds", "row"] (spM K mg 4 (callK L T (k + 1) 70)) := by
  refine fn_okM (fn := fn_least_given) F sc_least_given T_least_given rfl rfl fun cdv A outer s H E hr => ?_
  have hN := sc_least_given.nd
  have tk : Takes (cxOf (L2.CX P w) P w K mg base ["claims", "post", "bounds", "row", "worst", "at", "claim"] "least_given" (defScope st_least_given) f cdv A outer s H E) (wOf E) := takes_of rfl rfl rfl rfl
  exact (b_cons (b_set 4 hN c_non)
    (b_cons (b_for [5, 6] (k_enum Z.z_enumerate (c_var 0)) (l_tup (l_cons (l_nm 5 hN) (l_cons (l_nm 6 hN) l_nil))) (b_cons (b_if (PW.pt (w_and (d_cmp hr (op := .gt) (c_var 6) c_int) (w_and1 (d_cmp hr (op := .gt) (c_ix (c_var 3) (c_var 5)) (c_ix (c_ix (c_var 2) (c_var 5)) c_int))))) (b_cons (b_if (PW.pt (w_or (d_isN (c_var 4)) (w_or1 (d_cmp hr (op := .lt) (c_call C.c_sign_between hr tk (c_cons (c_var 1) (c_cons (c_var 6) (c_cons (c_bin (op := .sub) (c_ix (c_var 3) (c_var 5)) c_int) (c_cons (c_ix (c_var 0) (c_var 4)) (c_cons (c_bin (op := .sub) (c_ix (c_var 3) (c_var 4)) c_int) c_nil)))))) c_int)))) (b_cons (b_set 4 hN (c_var 5))
    b_nil) b_nil)
    b_nil) b_nil)
    b_nil))
    (b_cons (b_ret (c_var 4))
    b_nil)))
abbrev st_with_more : Stmt := topS 28
theorem sc_with_more : FnScope ["base", "places", "many", "at", "more"] ["base", "places", "many"] (defScope st_with_more) := ⟨rfl, rfl, rfl, by decide +kernel, rfl, by decide +kernel, by decide +kernel⟩
theorem ok_with_more {f : Addr} {fd : FuncData} (F : L2.Fun K "with_more" "with_more" st_with_more f fd) (Z : Env K mg) (C : Cals P w K mg base L k) : FnG P w K mg base (k + 1) f fd ["base", "places", "many"] (spM K mg 3 (callK L T (k + 1) 71)) := by
  refine fn_okM (fn := fn_with_more) F sc_with_more T_with_more rfl rfl fun cdv A outer s H E hr => ?_
  have hN := sc_with_more.nd
  have tk : Takes (cxOf (L2.CX P w) P w K mg base ["base", "places", "many", "at", "more"] "with_more" (defScope st_with_more) f cdv A outer s H E) (wOf E) := takes_of rfl rfl rfl rfl
  exact (b_cons (b_if (d_cmp hr (op := .eq) (c_var 2) c_int) (b_cons (b_ret (c_fr (c_disp (c_cons (c_var 0) c_nil))))
    b_nil) b_nil)
    (b_cons (b_if (d_cmp hr (op := .gt) (c_var 2) (c_bi (b := .len) Z.z_len (c_cons (c_var 1) c_nil))) (b_cons (b_ret (c_fr (c_disp c_nil)))
    b_nil) b_nil)
    (b_cons (b_set 3 hN (c_ix (c_var 1) c_int))
    (b_cons (b_set 4 hN (c_bin (op := .add) (c_bin (op := .add) (c_sl (c_var 0) c_oN (c_oS (c_var 3))) (c_tup (c_cons (c_bin (op := .add) (c_ix (c_var 0) (c_var 3)) c_int) c_nil))) (c_sl (c_var 0) (c_oS (c_bin (op := .add) (c_var 3) c_int)) c_oN)))
    (b_cons (b_ret (c_fr (c_cat (c_call C.c_with_more hr tk (c_cons (c_var 4) (c_cons (c_fr (c_cut (c_var 1) (c_oS c_int) c_oN)) (c_cons (c_bin (op := .sub) (c_var 2) c_int) c_nil)))) (c_call C.c_with_more hr tk (c_cons (c_var 0) (c_cons (c_fr (c_cut (c_var 1) (c_oS c_int) c_oN)) (c_cons (c_var 2) c_nil)))))))
    b_nil)))))
abbrev st_one_in : Stmt := topS 29
theorem sc_one_in : FnScope ["claims", "post", "bounds", "house", "row", "turn", "at", "pair"] ["claims", "post", "bounds", "house"] (defScope st_one_in) := ⟨rfl, rfl, rfl, by decide +kernel, rfl, by decide +kernel, by decide +kernel⟩
theorem ok_one_in {f : Addr} {fd : FuncData} (F : L2.Fun K "one_in" "one_in" st_one_in f fd) (Z : Env K mg) (C : Cals P w K mg base L k) : FnG P w K mg base (k + 1) f fd ["claims", "post", "bounds", "house"] (spM K mg 4 (callK L T (k + 1) 72)) := by
  refine fn_okM (fn := fn_one_in) F sc_one_in T_one_in rfl rfl fun cdv A outer s H E hr => ?_
  have hN := sc_one_in.nd
  have tk : Takes (cxOf (L2.CX P w) P w K mg base ["claims", "post", "bounds", "house", "row", "turn", "at", "pair"] "one_in" (defScope st_one_in) f cdv A outer s H E) (wOf E) := takes_of rfl rfl rfl rfl
  exact (b_cons (b_setB 4 [("pair", 7)] hN (k_seq (c_var 2)) (fun _ _ _ _ _ => (l_nm 7 hN)) (fun _ _ _ _ _ => q_nil) (fun _ _ _ _ _ => (c_ix (c_var 7) c_int)))
    (b_cons (b_if (d_cmp hr (op := .gt) (c_bi (b := .sum) Z.z_sum (c_cons (c_var 4) c_nil)) (c_var 3)) (b_cons (b_ret c_non)
    b_nil) b_nil)
    (b_cons (b_for [5] (k_range1 Z.z_range (c_bin (op := .sub) (c_var 3) (c_bi (b := .sum) Z.z_sum (c_cons (c_var 4) c_nil)))) (l_nm 5 hN) (b_cons (b_set 6 hN (c_call C.c_greatest_next hr tk (c_cons (c_var 0) (c_cons (c_var 1) (c_cons (c_var 2) (c_cons (c_var 4) c_nil))))))
    (b_cons (b_if (d_isN (c_var 6)) (b_cons (b_ret c_non)
    b_nil) b_nil)
    (b_cons (b_augIA (c_var 4) (c_var 6) c_int)
    b_nil))))
    (b_cons (b_ret (c_bi (b := .tup) Z.z_tuple (c_cons (c_var 4) c_nil)))
    b_nil))))
abbrev st_rows_in : Stmt := topS 30
theorem sc_rows_in : FnScope ["claims", "post", "bounds", "house", "row", "last", "claim", "seats", "given", "left", "at", "own", "base", "one"] ["claims", "post", "bounds", "house"] (defScope st_rows_in) := ⟨rfl, rfl, rfl, by decide +kernel, rfl, by decide +kernel, by decide +kernel⟩
theorem ok_rows_in {f : Addr} {fd : FuncData} (F : L2.Fun K "rows_in" "rows_in" st_rows_in f fd) (Z : Env K mg) (C : Cals P w K mg base L k) : FnG P w K mg base (k + 1) f fd ["claims", "post", "bounds", "house"] (spM K mg 4 (callK L T (k + 1) 73)) := by
  refine fn_okM (fn := fn_rows_in) F sc_rows_in T_rows_in rfl rfl fun cdv A outer s H E hr => ?_
  have hN := sc_rows_in.nd
  have tk : Takes (cxOf (L2.CX P w) P w K mg base ["claims", "post", "bounds", "house", "row", "last", "claim", "seats", "given", "left", "at", "own", "base", "one"] "rows_in" (defScope st_rows_in) f cdv A outer s H E) (wOf E) := takes_of rfl rfl rfl rfl
  exact (b_cons (b_set 4 hN (c_call C.c_one_in hr tk (c_cons (c_var 0) (c_cons (c_var 1) (c_cons (c_var 2) (c_cons (c_var 3) c_nil))))))
    (b_cons (b_set 5 hN (c_ite (d_notN (c_var 4)) (c_call C.c_least_given hr tk (c_cons (c_var 0) (c_cons (c_var 1) (c_cons (c_var 2) (c_cons (c_var 4) c_nil))))) c_non))
    (b_cons (b_if (d_isN (c_var 5)) (b_cons (b_ret (c_ite (d_notN (c_var 4)) (c_fr (c_disp (c_cons (c_var 4) c_nil))) (c_fr (c_disp c_nil))))
    b_nil) b_nil)
    (b_cons (b_par 6 7 hN (c_cons (c_ix (c_var 0) (c_var 5)) (c_cons (c_bin (op := .sub) (c_ix (c_var 4) (c_var 5)) c_int) c_nil)))
    (b_cons (b_asg [8, 9] (c_tup (c_cons (c_box (c_disp c_nil)) (c_cons (c_box (c_disp c_nil)) c_nil))) (l_tup (l_cons (l_nm 8 hN) (l_cons (l_nm 9 hN) l_nil))))
    (b_cons (b_for [10, 11] (k_enum Z.z_enumerate (c_var 0)) (l_tup (l_cons (l_nm 10 hN) (l_cons (l_nm 11 hN) l_nil))) (b_cons (b_if (PW.pt (w_and (d_cmp hr (op := .gt) (c_var 11) c_int) (w_and (d_cmp hr (op := .gt) (c_ix (c_var 4) (c_var 10)) (c_ix (c_ix (c_var 2) (c_var 10)) c_int)) (w_and1 (d_cmp hr (op := .eq) (c_call C.c_sign_between hr tk (c_cons (c_var 1) (c_cons (c_var 11) (c_cons (c_bin (op := .sub) (c_ix (c_var 4) (c_var 10)) c_int) (c_cons (c_var 6) (c_cons (c_var 7) c_nil)))))) c_int))))) (b_cons (b_expr (c_append (c_var 8) (c_var 10)))
    b_nil) (b_cons (b_if (PW.pt (w_and (d_cmp hr (op := .gt) (c_var 11) c_int) (w_and (d_cmp hr (op := .lt) (c_ix (c_var 4) (c_var 10)) (c_ix (c_ix (c_var 2) (c_var 10)) c_int)) (w_and1 (d_cmp hr (op := .eq) (c_call C.c_sign_between hr tk (c_cons (c_var 1) (c_cons (c_var 11) (c_cons (c_ix (c_var 4) (c_var 10)) (c_cons (c_var 6) (c_cons (c_var 7) c_nil)))))) c_int))))) (b_cons (b_expr (c_append (c_var 9) (c_var 10)))
    b_nil) b_nil)
    b_nil))
    b_nil))
    (b_cons (b_set 12 hN (c_bi (b := .tup) Z.z_tuple (c_cons (c_fr (c_comp [("at", 10), ("one", 13)] hN (k_enum Z.z_enumerate (c_var 4)) (fun _ _ _ _ _ => (l_tup (l_cons (l_nm 10 hN) (l_cons (l_nm 13 hN) l_nil)))) (fun _ _ _ _ _ => q_nil) (fun _ _ _ _ _ => (c_ite (d_cmp hr (op := .isIn) (c_var 10) (c_var 8)) (c_bin (op := .sub) (c_var 13) c_int) (c_var 13))))) c_nil)))
    (b_cons (b_ret (c_fr (c_sorted Z.z_sorted (c_call C.c_with_more hr tk (c_cons (c_var 12) (c_cons (c_fr (c_sorted Z.z_sorted (c_fr (c_cat (c_var 8) (c_var 9))))) (c_cons (c_bi (b := .len) Z.z_len (c_cons (c_var 8) c_nil)) c_nil)))))))
    b_nil))))))))
abbrev st_need_claims : Stmt := topS 31
theorem sc_need_claims : FnScope ["value"] ["value"] (defScope st_need_claims) := ⟨rfl, rfl, rfl, by decide +kernel, rfl, by decide +kernel, by decide +kernel⟩
theorem ok_need_claims {f : Addr} {fd : FuncData} (F : L2.Fun K "need_claims" "need_claims" st_need_claims f fd) (Z : Env K mg) (C : Cals P w K mg base L k) : FnG P w K mg base (k + 1) f fd ["value"] (spM K mg 1 (callK L T (k + 1) 74)) := by
  refine fn_okM (fn := fn_need_claims) F sc_need_claims T_need_claims rfl rfl fun cdv A outer s H E hr => ?_
  have hN := sc_need_claims.nd
  have tk : Takes (cxOf (L2.CX P w) P w K mg base ["value"] "need_claims" (defScope st_need_claims) f cdv A outer s H E) (wOf E) := takes_of rfl rfl rfl rfl
  exact (b_cons (b_if (d_not (d_val (c_call C.c_fits_claims hr tk (c_cons (c_var 0) c_nil)))) (b_cons (b_raise tk Z.e_InvalidClaims)
    b_nil) b_nil)
    b_nil)
abbrev st_need_house : Stmt := topS 32
theorem sc_need_house : FnScope ["value"] ["value"] (defScope st_need_house) := ⟨rfl, rfl, rfl, by decide +kernel, rfl, by decide +kernel, by decide +kernel⟩
theorem ok_need_house {f : Addr} {fd : FuncData} (F : L2.Fun K "need_house" "need_house" st_need_house f fd) (Z : Env K mg) (C : Cals P w K mg base L k) : FnG P w K mg base (k + 1) f fd ["value"] (spM K mg 1 (callK L T (k + 1) 75)) := by
  refine fn_okM (fn := fn_need_house) F sc_need_house T_need_house rfl rfl fun cdv A outer s H E hr => ?_
  have hN := sc_need_house.nd
  have tk : Takes (cxOf (L2.CX P w) P w K mg base ["value"] "need_house" (defScope st_need_house) f cdv A outer s H E) (wOf E) := takes_of rfl rfl rfl rfl
  exact (b_cons (b_expr (c_call C.c_need_number hr tk (c_cons (c_var 0) (c_cons c_int (c_cons (c_glb Z.g_SEATS) c_nil)))))
    b_nil)
abbrev st_quotas_in : Stmt := topS 34
theorem sc_quotas_in : FnScope ["claims", "house", "total", "claim"] ["claims", "house"] (defScope st_quotas_in) := ⟨rfl, rfl, rfl, by decide +kernel, rfl, by decide +kernel, by decide +kernel⟩
theorem ok_quotas_in {f : Addr} {fd : FuncData} (F : L2.Fun K "quotas_in" "quotas_in" st_quotas_in f fd) (Z : Env K mg) (C : Cals P w K mg base L k) : FnG P w K mg base (k + 1) f fd ["claims", "house"] (spM K mg 2 (callK L T (k + 1) 76)) := by
  refine fn_okM (fn := fn_quotas_in) F sc_quotas_in T_quotas_in rfl rfl fun cdv A outer s H E hr => ?_
  have hN := sc_quotas_in.nd
  have tk : Takes (cxOf (L2.CX P w) P w K mg base ["claims", "house", "total", "claim"] "quotas_in" (defScope st_quotas_in) f cdv A outer s H E) (wOf E) := takes_of rfl rfl rfl rfl
  exact (b_cons (b_set 2 hN (c_bi (b := .sum) Z.z_sum (c_cons (c_var 0) c_nil)))
    (b_cons (b_if (PW.pt (w_and (d_cmp hr (op := .eq) (c_var 2) c_int) (w_and1 (d_cmp hr (op := .gt) (c_var 1) c_int)))) (b_cons (b_raise tk Z.e_NoQuotas)
    b_nil) b_nil)
    (b_cons (b_ret (c_bi (b := .tup) Z.z_tuple (c_cons (c_fr (c_comp [("claim", 3)] hN (k_seq (c_var 0)) (fun _ _ _ _ _ => (l_nm 3 hN)) (fun _ _ _ _ _ => q_nil) (fun _ _ _ _ _ => (c_call C.c_made hr takesF (c_cons (c_bin (op := .mul) (c_var 3) (c_var 1)) (c_cons (c_bi (b := .max2) Z.z_max (c_cons c_int (c_cons (c_var 2) c_nil))) c_nil)))))) c_nil)))
    b_nil)))
abbrev st_whole_of : Stmt := topS 35
theorem sc_whole_of : FnScope ["quota"] ["quota"] (defScope st_whole_of) := ⟨rfl, rfl, rfl, by decide +kernel, rfl, by decide +kernel, by decide +kernel⟩
theorem ok_whole_of {f : Addr} {fd : FuncData} (F : L2.Fun K "whole_of" "whole_of" st_whole_of f fd) (Z : Env K mg) (C : Cals P w K mg base L k) : FnG P w K mg base (k + 1) f fd ["quota"] (spM K mg 1 (callK L T (k + 1) 77)) := by
  refine fn_okM (fn := fn_whole_of) F sc_whole_of T_whole_of rfl rfl fun cdv A outer s H E hr => ?_
  have hN := sc_whole_of.nd
  have tk : Takes (cxOf (L2.CX P w) P w K mg base ["quota"] "whole_of" (defScope st_whole_of) f cdv A outer s H E) (wOf E) := takes_of rfl rfl rfl rfl
  exact (b_cons (b_ret (c_bin (op := .fdiv) (c_ix (c_var 0) c_int) (c_ix (c_var 0) c_int)))
    b_nil)
abbrev st_bounds_by : Stmt := topS 36
theorem sc_bounds_by : FnScope ["quotas", "quota"] ["quotas"] (defScope st_bounds_by) := ⟨rfl, rfl, rfl, by decide +kernel, rfl, by decide +kernel, by decide +kernel⟩
theorem ok_bounds_by {f : Addr} {fd : FuncData} (F : L2.Fun K "bounds_by" "bounds_by" st_bounds_by f fd) (Z : Env K mg) (C : Cals P w K mg base L k) : FnG P w K mg base (k + 1) f fd ["quotas"] (spM K mg 1 (callK L T (k + 1) 78)) := by
  refine fn_okM (fn := fn_bounds_by) F sc_bounds_by T_bounds_by rfl rfl fun cdv A outer s H E hr => ?_
  have hN := sc_bounds_by.nd
  have tk : Takes (cxOf (L2.CX P w) P w K mg base ["quotas", "quota"] "bounds_by" (defScope st_bounds_by) f cdv A outer s H E) (wOf E) := takes_of rfl rfl rfl rfl
  exact (b_cons (b_ret (c_bi (b := .tup) Z.z_tuple (c_cons (c_fr (c_comp [("quota", 1)] hN (k_seq (c_var 0)) (fun _ _ _ _ _ => (l_nm 1 hN)) (fun _ _ _ _ _ => q_nil) (fun _ _ _ _ _ => (c_tup (c_cons (c_call C.c_whole_of hr takesF (c_cons (c_var 1) c_nil)) (c_cons (c_neg (c_bin (op := .fdiv) (c_neg (c_ix (c_var 1) c_int)) (c_ix (c_var 1) c_int))) c_nil)))))) c_nil)))
    b_nil)
abbrev st_rests_in : Stmt := topS 37
theorem sc_rests_in : FnScope ["claims", "house", "quotas", "base", "many", "total", "rests", "edge", "sure", "tied", "quota", "claim", "at", "rest", "one"] ["claims", "house"] (defScope st_rests_in) := ⟨rfl, rfl, rfl, by decide +kernel, rfl, by decide +kernel, by decide +kernel⟩
theorem ok_rests_in {f : Addr} {fd : FuncData} (F : L2.Fun K "rests_in" "rests_in" st_rests_in f fd) (Z : Env K mg) (C : Cals P w K mg base L k) : FnG P w K mg base (k + 1) f fd ["claims", "house"] (spM K mg 2 (callK L T (k + 1) 79)) := by
  refine fn_okM (fn := fn_rests_in) F sc_rests_in T_rests_in rfl rfl fun cdv A outer s H E hr => ?_
  have hN := sc_rests_in.nd
  have tk : Takes (cxOf (L2.CX P w) P w K mg base ["claims", "house", "quotas", "base", "many", "total", "rests", "edge", "sure", "tied", "quota", "claim", "at", "rest", "one"] "rests_in" (defScope st_rests_in) f cdv A outer s H E) (wOf E) := takes_of rfl rfl rfl rfl
  exact (b_cons (b_set 2 hN (c_call C.c_quotas_in hr tk (c_cons (c_var 0) (c_cons (c_var 1) c_nil))))
    (b_cons (b_set 3 hN (c_bi (b := .tup) Z.z_tuple (c_cons (c_fr (c_comp [("quota", 10)] hN (k_seq (c_var 2)) (fun _ _ _ _ _ => (l_nm 10 hN)) (fun _ _ _ _ _ => q_nil) (fun _ _ _ _ _ => (c_call C.c_whole_of hr takesF (c_cons (c_var 10) c_nil))))) c_nil)))
    (b_cons (b_set 4 hN (c_bin (op := .sub) (c_var 1) (c_bi (b := .sum) Z.z_sum (c_cons (c_var 3) c_nil))))
    (b_cons (b_if (d_cmp hr (op := .eq) (c_var 4) c_int) (b_cons (b_ret (c_fr (c_disp (c_cons (c_var 3) c_nil))))
    b_nil) b_nil)
    (b_cons (b_set 5 hN (c_bi (b := .sum) Z.z_sum (c_cons (c_var 0) c_nil)))
    (b_cons (b_setF 6 [("claim", 11)] hN (k_seq (c_var 0)) (fun _ _ _ _ _ => (l_nm 11 hN)) (fun _ _ _ _ _ => q_nil) (fun _ _ _ _ _ => (c_bin (op := .mod) (c_bin (op := .mul) (c_var 11) (c_var 1)) (c_var 5))))
    (b_cons (b_set 7 hN (c_ix (c_fr (c_sorted Z.z_sorted (c_var 6))) (c_neg (c_var 4))))
    (b_cons (b_set 8 hN (c_fr (c_comp [("at", 12), ("rest", 13)] hN (k_enum Z.z_enumerate (c_var 6)) (fun _ _ _ _ _ => (l_tup (l_cons (l_nm 12 hN) (l_cons (l_nm 13 hN) l_nil)))) (fun _ _ _ _ _ => (q_one (d_cmp hr (op := .gt) (c_var 13) (c_var 7)))) (fun _ _ _ _ _ => (c_var 12)))))
    (b_cons (b_setF 9 [("at", 12), ("rest", 13)] hN (k_enum Z.z_enumerate (c_var 6)) (fun _ _ _ _ _ => (l_tup (l_cons (l_nm 12 hN) (l_cons (l_nm 13 hN) l_nil)))) (fun _ _ _ _ _ => (q_one (d_cmp hr (op := .eq) (c_var 13) (c_var 7)))) (fun _ _ _ _ _ => (c_var 12)))
    (b_cons (b_set 3 hN (c_bi (b := .tup) Z.z_tuple (c_cons (c_fr (c_comp [("at", 12), ("one", 14)] hN (k_enum Z.z_enumerate (c_var 3)) (fun _ _ _ _ _ => (l_tup (l_cons (l_nm 12 hN) (l_cons (l_nm 14 hN) l_nil)))) (fun _ _ _ _ _ => q_nil) (fun _ _ _ _ _ => (c_ite (d_cmp hr (op := .isIn) (c_var 12) (c_var 8)) (c_bin (op := .add) (c_var 14) c_int) (c_var 14))))) c_nil)))
    (b_cons (b_ret (c_fr (c_sorted Z.z_sorted (c_call C.c_with_more hr tk (c_cons (c_var 3) (c_cons (c_var 9) (c_cons (c_bin (op := .sub) (c_var 4) (c_bi (b := .len) Z.z_len (c_cons (c_var 8) c_nil))) c_nil)))))))
    b_nil)))))))))))
abbrev st_fits_rule : Stmt := topS 39
theorem sc_fits_rule : FnScope ["value"] ["value"] (defScope st_fits_rule) := ⟨rfl, rfl, rfl, by decide +kernel, rfl, by decide +kernel, by decide +kernel⟩
theorem ok_fits_rule {f : Addr} {fd : FuncData} (F : L2.Fun K "fits_rule" "fits_rule" st_fits_rule f fd) (Z : Env K mg) (C : Cals P w K mg base L k) : FnG P w K mg base (k + 1) f fd ["value"] (spM K mg 1 (callK L T (k + 1) 80)) := by
  refine fn_okM (fn := fn_fits_rule) F sc_fits_rule T_fits_rule rfl rfl fun cdv A outer s H E hr => ?_
  have hN := sc_fits_rule.nd
  have tk : Takes (cxOf (L2.CX P w) P w K mg base ["value"] "fits_rule" (defScope st_fits_rule) f cdv A outer s H E) (wOf E) := takes_of rfl rfl rfl rfl
  exact (b_cons (b_if (PW.pt (w_or (d_not (d_val (c_call C.c_is_tuple_of hr tk (c_cons (c_var 0) (c_cons c_int (c_cons c_int c_nil)))))) (w_or1 (d_not (d_val (c_isi (t := .str) Z.z_isinstance Z.z_str (c_ix (c_var 0) c_int))))))) (b_cons (b_ret c_bl)
    b_nil) b_nil)
    (b_cons (b_if (d_cmp hr (op := .eq) (c_bi (b := .len) Z.z_len (c_cons (c_var 0) c_nil)) c_int) (b_cons (b_ret (c_cmp hr (op := .eq) (c_ix (c_var 0) c_int) c_str))
    b_nil) b_nil)
    (b_cons (b_ret (c_and (c_cmp hr (op := .isIn) (c_ix (c_var 0) c_int) (c_tup (c_cons c_str (c_cons c_str c_nil)))) (c_one (op := .And) (c_call C.c_fits_post hr tk (c_cons (c_ix (c_var 0) c_int) c_nil)))))
    b_nil)))
abbrev st_rows_of : Stmt := topS 40
theorem sc_rows_of : FnScope ["rule", "claims", "house", "bounds"] ["rule", "claims", "house"] (defScope st_rows_of) := ⟨rfl, rfl, rfl, by decide +kernel, rfl, by decide +kernel, by decide +kernel⟩
theorem ok_rows_of {f : Addr} {fd : FuncData} (F : L2.Fun K "rows_of" "rows_of" st_rows_of f fd) (Z : Env K mg) (C : Cals P w K mg base L k) : FnG P w K mg base (k + 1) f fd ["rule", "claims", "house"] (spM K mg 3 (callK L T (k + 1) 81)) := by
  refine fn_okM (fn := fn_rows_of) F sc_rows_of T_rows_of rfl rfl fun cdv A outer s H E hr => ?_
  have hN := sc_rows_of.nd
  have tk : Takes (cxOf (L2.CX P w) P w K mg base ["rule", "claims", "house", "bounds"] "rows_of" (defScope st_rows_of) f cdv A outer s H E) (wOf E) := takes_of rfl rfl rfl rfl
  exact (b_cons (b_if (PW.pt (w_and (d_cmp hr (op := .eq) (c_bi (b := .sum) Z.z_sum (c_cons (c_var 1) c_nil)) c_int) (w_and1 (d_cmp hr (op := .gt) (c_var 2) c_int)))) (b_cons (b_ret (c_tup c_nil))
    b_nil) b_nil)
    (b_cons (b_if (d_cmp hr (op := .eq) (c_ix (c_var 0) c_int) c_str) (b_cons (b_ret (c_bi (b := .tup) Z.z_tuple (c_cons (c_call C.c_rests_in hr tk (c_cons (c_var 1) (c_cons (c_var 2) c_nil))) c_nil)))
    b_nil) b_nil)
    (b_cons (b_set 3 hN (c_ite (d_cmp hr (op := .eq) (c_ix (c_var 0) c_int) c_str) (c_call C.c_bounds_by hr tk (c_cons (c_call C.c_quotas_in hr tk (c_cons (c_var 1) (c_cons (c_var 2) c_nil))) c_nil)) (c_bin (op := .mul) (c_tup (c_cons (c_tup (c_cons c_int (c_cons (c_glb Z.g_SEATS) c_nil))) c_nil)) (c_bi (b := .len) Z.z_len (c_cons (c_var 1) c_nil)))))
    (b_cons (b_ret (c_bi (b := .tup) Z.z_tuple (c_cons (c_call C.c_rows_in hr tk (c_cons (c_var 1) (c_cons (c_ix (c_var 0) c_int) (c_cons (c_var 3) (c_cons (c_var 2) c_nil))))) c_nil)))
    b_nil))))
abbrev st_need_rule : Stmt := topS 41
theorem sc_need_rule : FnScope ["value"] ["value"] (defScope st_need_rule) := ⟨rfl, rfl, rfl, by decide +kernel, rfl, by decide +kernel, by decide +kernel⟩
theorem ok_need_rule {f : Addr} {fd : FuncData} (F : L2.Fun K "need_rule" "need_rule" st_need_rule f fd) (Z : Env K mg) (C : Cals P w K mg base L k) : FnG P w K mg base (k + 1) f fd ["value"] (spM K mg 1 (callK L T (k + 1) 82)) := by
  refine fn_okM (fn := fn_need_rule) F sc_need_rule T_need_rule rfl rfl fun cdv A outer s H E hr => ?_
  have hN := sc_need_rule.nd
  have tk : Takes (cxOf (L2.CX P w) P w K mg base ["value"] "need_rule" (defScope st_need_rule) f cdv A outer s H E) (wOf E) := takes_of rfl rfl rfl rfl
  exact (b_cons (b_if (d_not (d_val (c_call C.c_fits_rule hr tk (c_cons (c_var 0) c_nil)))) (b_cons (b_raise tk Z.e_InvalidRule)
    b_nil) b_nil)
    b_nil)
abbrev st_is_rule : Stmt := topS 42
theorem sc_is_rule : FnScope ["value"] ["value"] (defScope st_is_rule) := ⟨rfl, rfl, rfl, by decide +kernel, rfl, by decide +kernel, by decide +kernel⟩
theorem ok_is_rule {f : Addr} {fd : FuncData} (F : L2.Fun K "is_rule" "is_rule" st_is_rule f fd) (Z : Env K mg) (C : Cals P w K mg base L k) : FnG P w K mg base (k + 1) f fd ["value"] (spM K mg 1 (callK L T (k + 1) 83)) := by
  refine fn_okM (fn := fn_is_rule) F sc_is_rule T_is_rule rfl rfl fun cdv A outer s H E hr => ?_
  have hN := sc_is_rule.nd
  have tk : Takes (cxOf (L2.CX P w) P w K mg base ["value"] "is_rule" (defScope st_is_rule) f cdv A outer s H E) (wOf E) := takes_of rfl rfl rfl rfl
  exact (b_cons (b_ret (c_call C.c_fits_rule hr tk (c_cons (c_var 0) c_nil)))
    b_nil)
abbrev st_rows_by : Stmt := topS 43
theorem sc_rows_by : FnScope ["rule", "claims", "house"] ["rule", "claims", "house"] (defScope st_rows_by) := ⟨rfl, rfl, rfl, by decide +kernel, rfl, by decide +kernel, by decide +kernel⟩
theorem ok_rows_by {f : Addr} {fd : FuncData} (F : L2.Fun K "rows_by" "rows_by" st_rows_by f fd) (Z : Env K mg) (C : Cals P w K mg base L k) : FnG P w K mg base (k + 1) f fd ["rule", "claims", "house"] (spM K mg 3 (callK L T (k + 1) 84)) := by
  refine fn_okM (fn := fn_rows_by) F sc_rows_by T_rows_by rfl rfl fun cdv A outer s H E hr => ?_
  have hN := sc_rows_by.nd
  have tk : Takes (cxOf (L2.CX P w) P w K mg base ["rule", "claims", "house"] "rows_by" (defScope st_rows_by) f cdv A outer s H E) (wOf E) := takes_of rfl rfl rfl rfl
  exact (b_cons (b_expr (c_call C.c_need_rule hr tk (c_cons (c_var 0) c_nil)))
    (b_cons (b_expr (c_call C.c_need_claims hr tk (c_cons (c_var 1) c_nil)))
    (b_cons (b_expr (c_call C.c_need_house hr tk (c_cons (c_var 2) c_nil)))
    (b_cons (b_ret (c_call C.c_rows_of hr tk (c_cons (c_var 0) (c_cons (c_var 1) (c_cons (c_var 2) c_nil)))))
    b_nil))))
abbrev st__law_cup : Stmt := topS 45
theorem sc__law_cup : FnScope ["script", "cell"] ["script"] (defScope st__law_cup) := ⟨rfl, rfl, rfl, by decide +kernel, rfl, by decide +kernel, by decide +kernel⟩
theorem ok__law_cup {f : Addr} {fd : FuncData} (F : L2.Fun K "_law_cup" "_law_cup" st__law_cup f fd) (Z : Env K mg) (C : Cals P w K mg base L k) : FnG P w K mg base (k + 1) f fd ["script"] (spM K mg 1 (callK L T (k + 1) 40)) := by
  refine fn_okM (fn := fn__law_cup) F sc__law_cup T__law_cup rfl rfl fun cdv A outer s H E hr => ?_
  have hN := sc__law_cup.nd
  have tk : Takes (cxOf (L2.CX P w) P w K mg base ["script", "cell"] "_law_cup" (defScope st__law_cup) f cdv A outer s H E) (wOf E) := takes_of rfl rfl rfl rfl
  exact (b_cons (b_set 1 hN (c_bi (b := .abs) Z.z_abs (c_cons (c_ix (c_fr (c_cat (c_fr (c_toList Z.z_list (c_var 0))) (c_fr (c_disp (c_cons c_int c_nil))))) c_int) c_nil)))
    (b_cons (b_ret (c_box (c_disp (c_cons (c_ite (d_cmp hr (op := .ge) (c_var 1) (c_bin (op := .pow) c_int c_int)) (c_bin (op := .fdiv) (c_var 1) c_int) c_int) (c_cons (c_bin (op := .add) (c_bin (op := .mod) (c_bi (b := .toInt) Z.z_int (c_cons (c_bin (op := .add) (c_bin (op := .mul) (c_var 1) c_int) c_int) c_nil)) c_int) c_int) c_nil)))))
    b_nil))
abbrev st__law_roll : Stmt := topS 46
theorem sc__law_roll : FnScope ["cup", "many", "found", "deep"] ["cup", "many"] (defScope st__law_roll) := ⟨rfl, rfl, rfl, by decide +kernel, rfl, by decide +kernel, by decide +kernel⟩
theorem ok__law_roll {f : Addr} {fd : FuncData} (F : L2.Fun K "_law_roll" "_law_roll" st__law_roll f fd) (Z : Env K mg) (C : Cals P w K mg base L k) : FnG P w K mg base (k + 1) f fd ["cup", "many"] (spM K mg 2 (callK L T (k + 1) 41)) := by
  refine fn_okM (fn := fn__law_roll) F sc__law_roll T__law_roll rfl rfl fun cdv A outer s H E hr => ?_
  have hN := sc__law_roll.nd
  have tk : Takes (cxOf (L2.CX P w) P w K mg base ["cup", "many", "found", "deep"] "_law_roll" (defScope st__law_roll) f cdv A outer s H E) (wOf E) := takes_of rfl rfl rfl rfl
  exact (b_cons (b_if (d_cmp hr (op := .gt) (c_ix (c_var 0) c_int) c_int) (b_cons (b_set 2 hN (c_bin (op := .mod) (c_bi (b := .toInt) Z.z_int (c_cons (c_ix (c_var 0) c_int) c_nil)) (c_var 1)))
    (b_cons (b_asg [] (c_bin (op := .fdiv) (c_ix (c_var 0) c_int) (c_var 1)) (l_sub (wOf E) (c_var 0) c_int))
    (b_cons (b_ret (c_var 2))
    b_nil))) b_nil)
    (b_cons (b_asg [] (c_bin (op := .mod) (c_bi (b := .toInt) Z.z_int (c_cons (c_bin (op := .add) (c_bin (op := .mul) (c_ix (c_var 0) c_int) c_int) c_int) c_nil)) c_int) (l_sub (wOf E) (c_var 0) c_int))
    (b_cons (b_set 3 hN (c_bin (op := .mod) (c_bi (b := .toInt) Z.z_int (c_cons (c_bin (op := .mul) (c_ix (c_var 0) c_int) (c_bin (op := .add) (c_ix (c_var 0) c_int) c_int)) c_nil)) c_int))
    (b_cons (b_ret (c_bin (op := .mod) (c_bi (b := .toInt) Z.z_int (c_cons (c_bin (op := .fdiv) (c_var 3) c_int) c_nil)) (c_var 1)))
    b_nil))))
abbrev st__law_some : Stmt := topS 47
theorem sc__law_some : FnScope ["cup", "things"] ["cup", "things"] (defScope st__law_some) := ⟨rfl, rfl, rfl, by decide +kernel, rfl, by decide +kernel, by decide +kernel⟩
theorem ok__law_some {f : Addr} {fd : FuncData} (F : L2.Fun K "_law_some" "_law_some" st__law_some f fd) (Z : Env K mg) (C : Cals P w K mg base L k) : FnG P w K mg base (k + 1) f fd ["cup", "things"] (spM K mg 2 (callK L T (k + 1) 42)) := by
  refine fn_okM (fn := fn__law_some) F sc__law_some T__law_some rfl rfl fun cdv A outer s H E hr => ?_
  have hN := sc__law_some.nd
  have tk : Takes (cxOf (L2.CX P w) P w K mg base ["cup", "things"] "_law_some" (defScope st__law_some) f cdv A outer s H E) (wOf E) := takes_of rfl rfl rfl rfl
  exact (b_cons (b_ret (c_ix (c_var 1) (c_call C.c__law_roll hr tk (c_cons (c_var 0) (c_cons (c_bi (b := .len) Z.z_len (c_cons (c_var 1) c_nil)) c_nil)))))
    b_nil)
abbrev st__law_post : Stmt := topS 48
theorem sc__law_post : FnScope ["cup"] ["cup"] (defScope st__law_post) := ⟨rfl, rfl, rfl, by decide +kernel, rfl, by decide +kernel, by decide +kernel⟩
theorem ok__law_post {f : Addr} {fd : FuncData} (F : L2.Fun K "_law_post" "_law_post" st__law_post f fd) (Z : Env K mg) (C : Cals P w K mg base L k) : FnG P w K mg base (k + 1) f fd ["cup"] (spM K mg 1 (callK L T (k + 1) 85)) := by
  refine fn_okM (fn := fn__law_post) F sc__law_post T__law_post rfl rfl fun cdv A outer s H E hr => ?_
  have hN := sc__law_post.nd
  have tk : Takes (cxOf (L2.CX P w) P w K mg base ["cup"] "_law_post" (defScope st__law_post) f cdv A outer s H E) (wOf E) := takes_of rfl rfl rfl rfl
  exact (b_cons (b_if (d_cmp hr (op := .eq) (c_call C.c__law_roll hr tk (c_cons (c_var 0) (c_cons c_int c_nil))) c_int) (b_cons (b_ret (c_call C.c__law_some hr tk (c_cons (c_var 0) (c_cons (c_fr (c_disp (c_cons (c_tup (c_cons c_str c_nil)) (c_cons (c_tup (c_cons c_str c_nil)) c_nil)))) c_nil))))
    b_nil) b_nil)
    (b_cons (b_ret (c_tup (c_cons c_str (c_cons (c_call C.c__law_some hr tk (c_cons (c_var 0) (c_cons (c_fr (c_disp (c_cons (c_tup (c_cons c_int (c_cons c_int c_nil))) (c_cons (c_tup (c_cons c_int (c_cons c_int c_nil))) (c_cons (c_tup (c_cons c_int (c_cons c_int c_nil))) (c_cons (c_tup (c_cons c_int (c_cons c_int c_nil))) (c_cons (c_tup (c_cons c_int (c_cons c_int c_nil))) (c_cons (c_tup (c_cons c_int (c_cons c_int c_nil))) (c_cons (c_tup (c_cons c_int (c_cons c_int c_nil))) c_nil))))))))) c_nil))) c_nil))))
    b_nil))
abbrev st__law_claims : Stmt := topS 49
theorem sc__law_claims : FnScope ["cup", "many", "one"] ["cup", "many"] (defScope st__law_claims) := ⟨rfl, rfl, rfl, by decide +kernel, rfl, by decide +kernel, by decide +kernel⟩
theorem ok__law_claims {f : Addr} {fd : FuncData} (F : L2.Fun K "_law_claims" "_law_claims" st__law_claims f fd) (Z : Env K mg) (C : Cals P w K mg base L k) : FnG P w K mg base (k + 1) f fd ["cup", "many"] (spM K mg 2 (callK L T (k + 1) 86)) := by
  refine fn_okM (fn := fn__law_claims) F sc__law_claims T__law_claims rfl rfl fun cdv A outer s H E hr => ?_
  have hN := sc__law_claims.nd
  have tk : Takes (cxOf (L2.CX P w) P w K mg base ["cup", "many", "one"] "_law_claims" (defScope st__law_claims) f cdv A outer s H E) (wOf E) := takes_of rfl rfl rfl rfl
  exact (b_cons (b_ret (c_bi (b := .tup) Z.z_tuple (c_cons (c_fr (c_comp [("one", 2)] hN (k_range1 Z.z_range (c_var 1)) (fun _ _ _ _ _ => (l_nm 2 hN)) (fun _ _ _ _ _ => q_nil) (fun _ _ _ _ _ => (c_call C.c__law_some hr takesF (c_cons (c_var 0) (c_cons (c_fr (c_disp (c_cons c_int (c_cons c_int (c_cons c_int (c_cons c_int (c_cons c_int (c_cons c_int (c_cons c_int (c_cons (c_call C.c__law_roll hr takesF (c_cons (c_var 0) (c_cons c_int c_nil))) (c_cons (c_bin (op := .pow) c_int c_int) (c_cons (c_call C.c__law_roll hr takesF (c_cons (c_var 0) (c_cons (c_bin (op := .pow) c_int c_int) c_nil))) c_nil)))))))))))) c_nil)))))) c_nil)))
    b_nil)
abbrev st__law_plain_square : Stmt := topS 50
theorem sc__law_plain_square : FnScope ["post", "number"] ["post", "number"] (defScope st__law_plain_square) := ⟨rfl, rfl, rfl, by decide +kernel, rfl, by decide +kernel, by decide +kernel⟩
theorem ok__law_plain_square {f : Addr} {fd : FuncData} (F : L2.Fun K "_law_plain_square" "_law_plain_square" st__law_plain_square f fd) (Z : Env K mg) (C : Cals P w K mg base L k) : FnG P w K mg base (k + 1) f fd ["post", "number"] (spM K mg 2 (callK L T (k + 1) 87)) := by
  refine fn_okM (fn := fn__law_plain_square) F sc__law_plain_square T__law_plain_square rfl rfl fun cdv A outer s H E hr => ?_
  have hN := sc__law_plain_square.nd
  have tk : Takes (cxOf (L2.CX P w) P w K mg base ["post", "number"] "_law_plain_square" (defScope st__law_plain_square) f cdv A outer s H E) (wOf E) := takes_of rfl rfl rfl rfl
  exact (b_cons (b_if (d_cmp hr (op := .eq) (c_ix (c_var 0) c_int) c_str) (b_cons (b_ret (c_tup (c_cons (c_bin (op := .mul) (c_var 1) (c_bin (op := .add) (c_var 1) c_int)) (c_cons c_int c_nil))))
    b_nil) b_nil)
    (b_cons (b_if (d_cmp hr (op := .eq) (c_ix (c_var 0) c_int) c_str) (b_cons (b_ret (c_tup (c_cons (c_bin (op := .pow) (c_bin (op := .mul) (c_bin (op := .mul) c_int (c_var 1)) (c_bin (op := .add) (c_var 1) c_int)) c_int) (c_cons (c_bin (op := .pow) (c_bin (op := .add) (c_bin (op := .mul) c_int (c_var 1)) c_int) c_int) c_nil))))
    b_nil) b_nil)
    (b_cons (b_ret (c_tup (c_cons (c_bin (op := .pow) (c_bin (op := .add) (c_bin (op := .mul) (c_var 1) (c_ix (c_ix (c_var 0) c_int) c_int)) (c_ix (c_ix (c_var 0) c_int) c_int)) c_int) (c_cons (c_bin (op := .pow) (c_ix (c_ix (c_var 0) c_int) c_int) c_int) c_nil))))
    b_nil)))
abbrev st__law_ahead : Stmt := topS 51
theorem sc__law_ahead : FnScope ["post", "claim", "seats", "other", "more", "above", "below", "over", "under"] ["post", "claim", "seats", "other", "more"] (defScope st__law_ahead) := ⟨rfl, rfl, rfl, by decide +kernel, rfl, by decide +kernel, by decide +kernel⟩
theorem ok__law_ahead {f : Addr} {fd : FuncData} (F : L2.Fun K "_law_ahead" "_law_ahead" st__law_ahead f fd) (Z : Env K mg) (C : Cals P w K mg base L k) : FnG P w K mg base (k + 1) f fd ["post", "claim", "seats", "other", "more"] (spM K mg 5 (callK L T (k + 1) 88)) := by
  refine fn_okM (fn := fn__law_ahead) F sc__law_ahead T__law_ahead rfl rfl fun cdv A outer s H E hr => ?_
  have hN := sc__law_ahead.nd
  have tk : Takes (cxOf (L2.CX P w) P w K mg base ["post", "claim", "seats", "other", "more", "above", "below", "over", "under"] "_law_ahead" (defScope st__law_ahead) f cdv A outer s H E) (wOf E) := takes_of rfl rfl rfl rfl
  exact (b_cons (b_asg [5, 6, 7, 8] (c_tup (c_cons (c_call C.c__law_plain_square hr tk (c_cons (c_var 0) (c_cons (c_var 2) c_nil))) (c_cons (c_call C.c__law_plain_square hr tk (c_cons (c_var 0) (c_cons (c_var 4) c_nil))) c_nil))) (l_tup (l_cons (l_tup (l_cons (l_nm 5 hN) (l_cons (l_nm 6 hN) l_nil))) (l_cons (l_tup (l_cons (l_nm 7 hN) (l_cons (l_nm 8 hN) l_nil))) l_nil))))
    (b_cons (b_ret (c_cmp hr (op := .gt) (c_bin (op := .mul) (c_bin (op := .mul) (c_bin (op := .mul) (c_var 1) (c_var 1)) (c_var 7)) (c_var 6)) (c_bin (op := .mul) (c_bin (op := .mul) (c_bin (op := .mul) (c_var 3) (c_var 3)) (c_var 5)) (c_var 8))))
    b_nil))
abbrev st__law_grown : Stmt := topS 52
theorem sc__law_grown : FnScope ["claims", "post", "house", "low", "high", "rows", "turn", "more", "row", "able", "at", "claim", "other"] ["claims", "post", "house", "low", "high"] (defScope st__law_grown) := ⟨rfl, rfl, rfl, by decide +kernel, rfl, by decide +kernel, by decide +kernel⟩
theorem ok__law_grown {f : Addr} {fd : FuncData} (F : L2.Fun K "_law_grown" "_law_grown" st__law_grown f fd) (Z : Env K mg) (C : Cals P w K mg base L k) : FnG P w K mg base (k + 1) f fd ["claims", "post", "house", "low", "high"] (spM K mg 5 (callK L T (k + 1) 89)) := by
  refine fn_okM (fn := fn__law_grown) F sc__law_grown T__law_grown rfl rfl fun cdv A outer s H E hr => ?_
  have hN := sc__law_grown.nd
  have tk : Takes (cxOf (L2.CX P w) P w K mg base ["claims", "post", "house", "low", "high", "rows", "turn", "more", "row", "able", "at", "claim", "other"] "_law_grown" (defScope st__law_grown) f cdv A outer s H E) (wOf E) := takes_of rfl rfl rfl rfl
  exact (b_cons (b_set 5 hN (c_ite (d_cmp hr (op := .le) (c_bi (b := .sum) Z.z_sum (c_cons (c_var 3) c_nil)) (c_var 2)) (c_fr (c_disp (c_cons (c_bi (b := .tup) Z.z_tuple (c_cons (c_var 3) c_nil)) c_nil))) (c_fr (c_disp c_nil))))
    (b_cons (b_for [6] (k_range1 Z.z_range (c_bin (op := .sub) (c_var 2) (c_bi (b := .sum) Z.z_sum (c_cons (c_var 3) c_nil)))) (l_nm 6 hN) (b_cons (b_set 7 hN (c_box (c_disp c_nil)))
    (b_cons (b_for [8] (k_seq (c_var 5)) (l_nm 8 hN) (b_cons (b_setF 9 [("at", 10), ("claim", 11)] hN (k_enum Z.z_enumerate (c_var 0)) (fun _ _ _ _ _ => (l_tup (l_cons (l_nm 10 hN) (l_cons (l_nm 11 hN) l_nil)))) (fun _ _ _ _ _ => (q_one (PW.pt (w_and (d_cmp hr (op := .gt) (c_var 11) c_int) (w_and1 (d_cmp hr (op := .lt) (c_ix (c_var 8) (c_var 10)) (c_ix (c_var 4) (c_var 10)))))))) (fun _ _ _ _ _ => (c_var 10)))
    (b_cons (b_for [10] (k_seq (c_var 9)) (l_nm 10 hN) (b_cons (b_if (d_cmp hr (op := .eq) (c_fr (c_comp [("other", 12)] hN (k_seq (c_var 9)) (fun _ _ _ _ _ => (l_nm 12 hN)) (fun _ _ _ _ _ => (q_one (d_val (c_call C.c__law_ahead hr takesF (c_cons (c_var 1) (c_cons (c_ix (c_var 0) (c_var 12)) (c_cons (c_ix (c_var 8) (c_var 12)) (c_cons (c_ix (c_var 0) (c_var 10)) (c_cons (c_ix (c_var 8) (c_var 10)) c_nil))))))))) (fun _ _ _ _ _ => c_int))) (c_fr (c_disp c_nil))) (b_cons (b_expr (c_append (c_var 7) (c_bin (op := .add) (c_bin (op := .add) (c_sl (c_var 8) c_oN (c_oS (c_var 10))) (c_tup (c_cons (c_bin (op := .add) (c_ix (c_var 8) (c_var 10)) c_int) c_nil))) (c_sl (c_var 8) (c_oS (c_bin (op := .add) (c_var 10) c_int)) c_oN))))
    b_nil) b_nil)
    b_nil))
    b_nil)))
    (b_cons (b_set 5 hN (c_fr (c_sortedSet hr Z.z_sorted Z.z_set (c_var 7))))
    b_nil))))
    (b_cons (b_ret (c_var 5))
    b_nil)))
abbrev st__law_rested : Stmt := topS 53
theorem sc__law_rested : FnScope ["claims", "house", "total", "floors", "rests", "rows", "turn", "more", "row", "able", "top", "claim", "at"] ["claims", "house"] (defScope st__law_rested) := ⟨rfl, rfl, rfl, by decide +kernel, rfl, by decide +kernel, by decide +kernel⟩
theorem ok__law_rested {f : Addr} {fd : FuncData} (F : L2.Fun K "_law_rested" "_law_rested" st__law_rested f fd) (Z : Env K mg) (C : Cals P w K mg base L k) : FnG P w K mg base (k + 1) f fd ["claims", "house"] (spM K mg 2 (callK L T (k + 1) 90)) := by
  refine fn_okM (fn := fn__law_rested) F sc__law_rested T__law_rested rfl rfl fun cdv A outer s H E hr => ?_
  have hN := sc__law_rested.nd
  have tk : Takes (cxOf (L2.CX P w) P w K mg base ["claims", "house", "total", "floors", "rests", "rows", "turn", "more", "row", "able", "top", "claim", "at"] "_law_rested" (defScope st__law_rested) f cdv A outer s H E) (wOf E) := takes_of rfl rfl rfl rfl
  exact (b_cons (b_set 2 hN (c_bi (b := .sum) Z.z_sum (c_cons (c_var 0) c_nil)))
    (b_cons (b_asg [3, 4] (c_tup (c_cons (c_bi (b := .tup) Z.z_tuple (c_cons (c_fr (c_comp [("claim", 11)] hN (k_seq (c_var 0)) (fun _ _ _ _ _ => (l_nm 11 hN)) (fun _ _ _ _ _ => q_nil) (fun _ _ _ _ _ => (c_bin (op := .fdiv) (c_bin (op := .mul) (c_var 11) (c_var 1)) (c_var 2))))) c_nil)) (c_cons (c_fr (c_comp [("claim", 11)] hN (k_seq (c_var 0)) (fun _ _ _ _ _ => (l_nm 11 hN)) (fun _ _ _ _ _ => q_nil) (fun _ _ _ _ _ => (c_bin (op := .mod) (c_bi (b := .toInt) Z.z_int (c_cons (c_bin (op := .mul) (c_var 11) (c_var 1)) c_nil)) (c_var 2))))) c_nil))) (l_tup (l_cons (l_nm 3 hN) (l_cons (l_nm 4 hN) l_nil))))
    (b_cons (b_set 5 hN (c_fr (c_disp (c_cons (c_var 3) c_nil))))
    (b_cons (b_for [6] (k_range1 Z.z_range (c_bin (op := .sub) (c_var 1) (c_bi (b := .sum) Z.z_sum (c_cons (c_var 3) c_nil)))) (l_nm 6 hN) (b_cons (b_set 7 hN (c_fr (c_disp c_nil)))
    (b_cons (b_for [8] (k_seq (c_var 5)) (l_nm 8 hN) (b_cons (b_setF 9 [("at", 12)] hN (k_range1 Z.z_range (c_bi (b := .len) Z.z_len (c_cons (c_var 0) c_nil))) (fun _ _ _ _ _ => (l_nm 12 hN)) (fun _ _ _ _ _ => (q_one (PW.pt (w_and (d_cmp hr (op := .eq) (c_ix (c_var 8) (c_var 12)) (c_ix (c_var 3) (c_var 12))) (w_and1 (d_cmp hr (op := .gt) (c_ix (c_var 4) (c_var 12)) c_int)))))) (fun _ _ _ _ _ => (c_var 12)))
    (b_cons (b_set 10 hN (c_bi (b := .maxL) Z.z_max (c_cons (c_fr (c_comp [("at", 12)] hN (k_seq (c_var 9)) (fun _ _ _ _ _ => (l_nm 12 hN)) (fun _ _ _ _ _ => q_nil) (fun _ _ _ _ _ => (c_ix (c_var 4) (c_var 12))))) c_nil)))
    (b_cons (b_set 7 hN (c_fr (c_cat (c_var 7) (c_fr (c_comp [("at", 12)] hN (k_seq (c_var 9)) (fun _ _ _ _ _ => (l_nm 12 hN)) (fun _ _ _ _ _ => (q_one (d_cmp hr (op := .eq) (c_ix (c_var 4) (c_var 12)) (c_var 10)))) (fun _ _ _ _ _ => (c_bin (op := .add) (c_bin (op := .add) (c_sl (c_var 8) c_oN (c_oS (c_var 12))) (c_tup (c_cons (c_bin (op := .add) (c_ix (c_var 8) (c_var 12)) c_int) c_nil))) (c_sl (c_var 8) (c_oS (c_bin (op := .add) (c_var 12) c_int)) c_oN))))))))
    b_nil))))
    (b_cons (b_set 5 hN (c_fr (c_sortedSet hr Z.z_sorted Z.z_set (c_var 7))))
    b_nil))))
    (b_cons (b_ret (c_var 5))
    b_nil)))))
abbrev st__law_rows : Stmt := topS 54
theorem sc__law_rows : FnScope ["rule", "claims", "house", "total", "many", "low", "claim"] ["rule", "claims", "house"] (defScope st__law_rows) := ⟨rfl, rfl, rfl, by decide +kernel, rfl, by decide +kernel, by decide +kernel⟩
theorem ok__law_rows {f : Addr} {fd : FuncData} (F : L2.Fun K "_law_rows" "_law_rows" st__law_rows f fd) (Z : Env K mg) (C : Cals P w K mg base L k) : FnG P w K mg base (k + 1) f fd ["rule", "claims", "house"] (spM K mg 3 (callK L T (k + 1) 91)) := by
  refine fn_okM (fn := fn__law_rows) F sc__law_rows T__law_rows rfl rfl fun cdv A outer s H E hr => ?_
  have hN := sc__law_rows.nd
  have tk : Takes (cxOf (L2.CX P w) P w K mg base ["rule", "claims", "house", "total", "many", "low", "claim"] "_law_rows" (defScope st__law_rows) f cdv A outer s H E) (wOf E) := takes_of rfl rfl rfl rfl
  exact (b_cons (b_asg [3, 4] (c_tup (c_cons (c_bi (b := .sum) Z.z_sum (c_cons (c_var 1) c_nil)) (c_cons (c_bi (b := .len) Z.z_len (c_cons (c_var 1) c_nil)) c_nil))) (l_tup (l_cons (l_nm 3 hN) (l_cons (l_nm 4 hN) l_nil))))
    (b_cons (b_if (d_cmp hr (op := .eq) (c_var 3) c_int) (b_cons (b_ret (c_ite (d_cmp hr (op := .eq) (c_var 2) c_int) (c_fr (c_disp (c_cons (c_bin (op := .mul) (c_tup (c_cons c_int c_nil)) (c_var 4)) c_nil))) (c_fr (c_disp c_nil))))
    b_nil) b_nil)
    (b_cons (b_if (d_cmp hr (op := .eq) (c_ix (c_var 0) c_int) c_str) (b_cons (b_ret (c_call C.c__law_grown hr tk (c_cons (c_var 1) (c_cons (c_ix (c_var 0) c_int) (c_cons (c_var 2) (c_cons (c_fr (c_rep (c_fr (c_disp (c_cons c_int c_nil))) (c_var 4))) (c_cons (c_fr (c_rep (c_fr (c_disp (c_cons c_int c_nil))) (c_var 4))) c_nil)))))))
    b_nil) b_nil)
    (b_cons (b_if (d_cmp hr (op := .eq) (c_ix (c_var 0) c_int) c_str) (b_cons (b_ret (c_call C.c__law_rested hr tk (c_cons (c_var 1) (c_cons (c_var 2) c_nil))))
    b_nil) b_nil)
    (b_cons (b_setF 5 [("claim", 6)] hN (k_seq (c_var 1)) (fun _ _ _ _ _ => (l_nm 6 hN)) (fun _ _ _ _ _ => q_nil) (fun _ _ _ _ _ => (c_bin (op := .fdiv) (c_bin (op := .mul) (c_var 6) (c_var 2)) (c_var 3))))
    (b_cons (b_ret (c_call C.c__law_grown hr tk (c_cons (c_var 1) (c_cons (c_ix (c_var 0) c_int) (c_cons (c_var 2) (c_cons (c_var 5) (c_cons (c_fr (c_comp [("claim", 6)] hN (k_seq (c_var 1)) (fun _ _ _ _ _ => (l_nm 6 hN)) (fun _ _ _ _ _ => q_nil) (fun _ _ _ _ _ => (c_bin (op := .fdiv) (c_bin (op := .sub) (c_bin (op := .add) (c_bin (op := .mul) (c_var 6) (c_var 2)) (c_var 3)) c_int) (c_var 3))))) c_nil)))))))
    b_nil))))))
abbrev st__law_rule : Stmt := topS 55
theorem sc__law_rule : FnScope ["cup"] ["cup"] (defScope st__law_rule) := ⟨rfl, rfl, rfl, by decide +kernel, rfl, by decide +kernel, by decide +kernel⟩
theorem ok__law_rule {f : Addr} {fd : FuncData} (F : L2.Fun K "_law_rule" "_law_rule" st__law_rule f fd) (Z : Env K mg) (C : Cals P w K mg base L k) : FnG P w K mg base (k + 1) f fd ["cup"] (spM K mg 1 (callK L T (k + 1) 92)) := by
  refine fn_okM (fn := fn__law_rule) F sc__law_rule T__law_rule rfl rfl fun cdv A outer s H E hr => ?_
  have hN := sc__law_rule.nd
  have tk : Takes (cxOf (L2.CX P w) P w K mg base ["cup"] "_law_rule" (defScope st__law_rule) f cdv A outer s H E) (wOf E) := takes_of rfl rfl rfl rfl
  exact (b_cons (b_ret (c_call C.c__law_some hr tk (c_cons (c_var 0) (c_cons (c_fr (c_disp (c_cons (c_tup (c_cons c_str (c_cons (c_call C.c__law_post hr tk (c_cons (c_var 0) c_nil)) c_nil))) (c_cons (c_tup (c_cons c_str (c_cons (c_call C.c__law_post hr tk (c_cons (c_var 0) c_nil)) c_nil))) (c_cons (c_tup (c_cons c_str (c_cons (c_call C.c__law_post hr tk (c_cons (c_var 0) c_nil)) c_nil))) (c_cons (c_tup (c_cons c_str c_nil)) (c_cons (c_tup (c_cons c_str c_nil)) c_nil))))))) c_nil))))
    b_nil)
abbrev st__law_some_claims : Stmt := topS 56
theorem sc__law_some_claims : FnScope ["cup", "most", "many", "claims", "claim", "one"] ["cup", "most"] (defScope st__law_some_claims) := ⟨rfl, rfl, rfl, by decide +kernel, rfl, by decide +kernel, by decide +kernel⟩
theorem ok__law_some_claims {f : Addr} {fd : FuncData} (F : L2.Fun K "_law_some_claims" "_law_some_claims" st__law_some_claims f fd) (Z : Env K mg) (C : Cals P w K mg base L k) : FnG P w K mg base (k + 1) f fd ["cup", "most"] (spM K mg 2 (callK L T (k + 1) 93)) := by
  refine fn_okM (fn := fn__law_some_claims) F sc__law_some_claims T__law_some_claims rfl rfl fun cdv A outer s H E hr => ?_
  have hN := sc__law_some_claims.nd
  have tk : Takes (cxOf (L2.CX P w) P w K mg base ["cup", "most", "many", "claims", "claim", "one"] "_law_some_claims" (defScope st__law_some_claims) f cdv A outer s H E) (wOf E) := takes_of rfl rfl rfl rfl
  exact (b_cons (b_set 2 hN (c_bin (op := .add) c_int (c_call C.c__law_roll hr tk (c_cons (c_var 0) (c_cons (c_var 1) c_nil)))))
    (b_cons (b_set 3 hN (c_call C.c__law_claims hr tk (c_cons (c_var 0) (c_cons (c_var 2) c_nil))))
    (b_cons (b_set 4 hN (c_call C.c__law_some hr tk (c_cons (c_var 0) (c_cons (c_fr (c_disp (c_cons c_int (c_cons c_int (c_cons (c_bin (op := .pow) c_int c_int) c_nil))))) c_nil))))
    (b_cons (b_ret (c_call C.c__law_some hr tk (c_cons (c_var 0) (c_cons (c_fr (c_disp (c_cons (c_var 3) (c_cons (c_var 3) (c_cons (c_bi (b := .tup) Z.z_tuple (c_cons (c_fr (c_comp [("one", 5)] hN (k_seq (c_var 3)) (fun _ _ _ _ _ => (l_nm 5 hN)) (fun _ _ _ _ _ => q_nil) (fun _ _ _ _ _ => (c_bin (op := .add) c_int (c_call C.c__law_roll hr takesF (c_cons (c_var 0) (c_cons c_int c_nil))))))) c_nil)) (c_cons (c_bin (op := .mul) (c_tup (c_cons (c_var 4) c_nil)) (c_var 2)) c_nil)))))) c_nil))))
    b_nil))))
abbrev st__law_odd_rules : Stmt := topS 57
theorem sc__law_odd_rules : FnScope ["post", "some"] ["post"] (defScope st__law_odd_rules) := ⟨rfl, rfl, rfl, by decide +kernel, rfl, by decide +kernel, by decide +kernel⟩
theorem ok__law_odd_rules {f : Addr} {fd : FuncData} (F : L2.Fun K "_law_odd_rules" "_law_odd_rules" st__law_odd_rules f fd) (Z : Env K mg) (C : Cals P w K mg base L k) : FnG P w K mg base (k + 1) f fd ["post"] (spM K mg 1 (callK L T (k + 1) 94)) := by
  refine fn_okM (fn := fn__law_odd_rules) F sc__law_odd_rules T__law_odd_rules rfl rfl fun cdv A outer s H E hr => ?_
  have hN := sc__law_odd_rules.nd
  have tk : Takes (cxOf (L2.CX P w) P w K mg base ["post", "some"] "_law_odd_rules" (defScope st__law_odd_rules) f cdv A outer s H E) (wOf E) := takes_of rfl rfl rfl rfl
  exact (b_cons (b_set 1 hN (c_fr (c_disp (c_cons c_non (c_cons (c_tup c_nil) (c_cons c_str (c_cons (c_tup (c_cons c_str (c_cons (c_var 0) c_nil))) (c_cons (c_tup (c_cons c_str c_nil)) (c_cons (c_tup (c_cons c_str c_nil)) (c_cons (c_tup (c_cons c_str (c_cons (c_tup (c_cons c_str (c_cons (c_tup (c_cons c_int (c_cons c_int c_nil))) c_nil))) c_nil))) (c_cons (c_tup (c_cons c_str (c_cons c_non c_nil))) (c_cons (c_fr (c_disp (c_cons c_str c_nil))) (c_cons (c_tup (c_cons c_str c_nil)) (c_cons (c_tup (c_cons c_non c_nil)) c_nil))))))))))))))
    (b_cons (b_ret (c_fr (c_cat (c_var 1) (c_fr (c_disp (c_cons (c_tup (c_cons c_str (c_cons (c_var 0) (c_cons c_int c_nil)))) (c_cons (c_tup (c_cons c_str (c_cons (c_fr (c_toList Z.z_list (c_var 0))) c_nil))) (c_cons (c_tup (c_cons c_str (c_cons (c_var 0) c_nil))) (c_cons (c_tup (c_cons (c_tup (c_cons c_str c_nil)) (c_cons (c_var 0) c_nil))) (c_cons (c_tup (c_cons c_str (c_cons (c_tup (c_cons c_str (c_cons c_int c_nil))) c_nil))) (c_cons (c_tup (c_cons c_str (c_cons c_str c_nil))) (c_cons c_bl c_nil))))))))))))
    b_nil))
abbrev st_law : Stmt := topS 58
theorem sc_law : FnScope ["script", "cup", "turn", "rule", "claims", "house", "told", "post", "odd"] ["script"] (defScope st_law) := ⟨rfl, rfl, rfl, by decide +kernel, rfl, by decide +kernel, by decide +kernel⟩
theorem ok_law {f : Addr} {fd : FuncData} (F : L2.Fun K "law" "law" st_law f fd) (Z : Env K mg) (C : Cals P w K mg base L k) : FnG P w K mg base (k + 1) f fd ["script"] (spM K mg 1 (callK L T (k + 1) 95)) := by
  refine fn_okM (fn := fn_law) F sc_law T_law rfl rfl fun cdv A outer s H E hr => ?_
  have hN := sc_law.nd
  have tk : Takes (cxOf (L2.CX P w) P w K mg base ["script", "cup", "turn", "rule", "claims", "house", "told", "post", "odd"] "law" (defScope st_law) f cdv A outer s H E) (wOf E) := takes_of rfl rfl rfl rfl
  exact (b_cons (b_set 1 hN (c_call C.c__law_cup hr tk (c_cons (c_var 0) c_nil)))
    (b_cons (b_for [2] (k_range1 Z.z_range c_int) (l_nm 2 hN) (b_cons (b_par3 3 4 5 hN (c_cons (c_call C.c__law_rule hr tk (c_cons (c_var 1) c_nil)) (c_cons (c_call C.c__law_some_claims hr tk (c_cons (c_var 1) (c_cons c_int c_nil))) (c_cons (c_call C.c__law_roll hr tk (c_cons (c_var 1) (c_cons c_int c_nil))) c_nil))))
    (b_cons (b_set 6 hN (c_call C.c_rows_by hr tk (c_cons (c_var 3) (c_cons (c_var 4) (c_cons (c_var 5) c_nil)))))
    (b_cons (b_if (PW.pt (w_or (d_notB (c_call C.c_is_rule hr tk (c_cons (c_var 3) c_nil))) (w_or1 (d_cmp hr (op := .ne) (c_repr hr Z.z_repr (c_var 6)) (c_repr hr Z.z_repr (c_bi (b := .tup) Z.z_tuple (c_cons (c_call C.c__law_rows hr tk (c_cons (c_var 3) (c_cons (c_var 4) (c_cons (c_var 5) c_nil)))) c_nil))))))) (b_cons (b_ret c_bl)
    b_nil) b_nil)
    b_nil))))
    (b_cons (b_set 7 hN (c_call C.c__law_post hr tk (c_cons (c_var 1) c_nil)))
    (b_cons (b_if (d_cmp hr (op := .ne) (c_fr (c_comp [("odd", 8)] hN (k_seq (c_call C.c__law_odd_rules hr tk (c_cons (c_var 7) c_nil))) (fun _ _ _ _ _ => (l_nm 8 hN)) (fun _ _ _ _ _ => (q_one (d_notB (c_call C.c_is_rule hr takesF (c_cons (c_var 8) c_nil))))) (fun _ _ _ _ _ => (c_var 8)))) (c_fr (c_disp c_nil))) (b_cons (b_ret c_bl)
    b_nil) b_nil)
    (b_cons (b_for [3] (k_seq (c_tup (c_cons (c_tup (c_cons c_str (c_cons (c_var 7) c_nil))) (c_cons (c_tup (c_cons c_str (c_cons (c_var 7) c_nil))) (c_cons (c_tup (c_cons c_str c_nil)) c_nil))))) (l_nm 3 hN) (b_cons (b_if (PW.pt (w_or (d_cmp hr (op := .ne) (c_call C.c_rows_by hr tk (c_cons (c_var 3) (c_cons (c_tup (c_cons c_int (c_cons c_int c_nil))) (c_cons c_int c_nil)))) (c_tup (c_cons (c_tup (c_cons c_int (c_cons c_int c_nil))) c_nil))) (w_or (d_cmp hr (op := .ne) (c_call C.c_rows_by hr tk (c_cons (c_var 3) (c_cons (c_tup (c_cons c_int (c_cons c_int c_nil))) (c_cons (c_bin (op := .add) c_int (c_call C.c__law_roll hr tk (c_cons (c_var 1) (c_cons c_int c_nil)))) c_nil)))) (c_tup c_nil)) (w_or1 (d_cmp hr (op := .ne) (c_call C.c_rows_by hr tk (c_cons (c_var 3) (c_cons (c_tup (c_cons c_int c_nil)) (c_cons c_int c_nil)))) (c_tup (c_cons (c_tup (c_cons c_int c_nil)) c_nil))))))) (b_cons (b_ret c_bl)
    b_nil) b_nil)
    b_nil))
    (b_cons (b_ret (c_and (c_cmp hr (op := .eq) (c_bi (b := .len) Z.z_len (c_cons (c_call C.c_rows_by hr tk (c_cons (c_tup (c_cons c_str c_nil)) (c_cons (c_bin (op := .mul) (c_tup (c_cons c_int c_nil)) c_int) (c_cons c_int c_nil)))) c_nil)) c_int) (c_one (op := .And) (c_cmp hr (op := .eq) (c_bi (b := .len) Z.z_len (c_cons (c_call C.c_rows_by hr tk (c_cons (c_tup (c_cons c_str (c_cons (c_tup (c_cons c_str (c_cons (c_tup (c_cons c_int (c_cons c_int c_nil))) c_nil))) c_nil))) (c_cons (c_bin (op := .mul) (c_tup (c_cons c_int c_nil)) c_int) (c_cons c_int c_nil)))) c_nil)) c_int))))
    b_nil))))))
structure Funs (K : PySem.W.Frag) (mg : Str → Option Value) : Prop where
  p_is_whole : FunP K mg "is_whole" st_is_whole ["value", "low", "high"]
  p_is_integer : FunP K mg "is_integer" st_is_integer ["value"]
  p_is_tuple_of : FunP K mg "is_tuple_of" st_is_tuple_of ["value", "low", "high"]
  p_common_divisor : FunP K mg "common_divisor" st_common_divisor ["one", "other"]
  p_fits_ratio : FunP K mg "fits_ratio" st_fits_ratio ["value"]
  p_made : FunP K mg "made" st_made ["above", "below"]
  p_compared : FunP K mg "compared" st_compared ["one", "other"]
  p_fits_post : FunP K mg "fits_post" st_fits_post ["value"]
  p_square_of : FunP K mg "square_of" st_square_of ["post", "number"]
  p_need_number : FunP K mg "need_number" st_need_number ["value", "low", "high"]
  p_fits_claims : FunP K mg "fits_claims" st_fits_claims ["value"]
  p_sign_between : FunP K mg "sign_between" st_sign_between ["post", "claim", "seats", "other", "more"]
  p_greatest_next : FunP K mg "greatest_next" st_greatest_next ["claims", "post", "bounds", "row"]
  p_least_given : FunP K mg "least_given" st_least_given ["claims", "post", "bounds", "row"]
  p_with_more : FunP K mg "with_more" st_with_more ["base", "places", "many"]
  p_one_in : FunP K mg "one_in" st_one_in ["claims", "post", "bounds", "house"]
  p_rows_in : FunP K mg "rows_in" st_rows_in ["claims", "post", "bounds", "house"]
  p_need_claims : FunP K mg "need_claims" st_need_claims ["value"]
  p_need_house : FunP K mg "need_house" st_need_house ["value"]
  p_quotas_in : FunP K mg "quotas_in" st_quotas_in ["claims", "house"]
  p_whole_of : FunP K mg "whole_of" st_whole_of ["quota"]
  p_bounds_by : FunP K mg "bounds_by" st_bounds_by ["quotas"]
  p_rests_in : FunP K mg "rests_in" st_rests_in ["claims", "house"]
  p_fits_rule : FunP K mg "fits_rule" st_fits_rule ["value"]
  p_rows_of : FunP K mg "rows_of" st_rows_of ["rule", "claims", "house"]
  p_need_rule : FunP K mg "need_rule" st_need_rule ["value"]
  p_is_rule : FunP K mg "is_rule" st_is_rule ["value"]
  p_rows_by : FunP K mg "rows_by" st_rows_by ["rule", "claims", "house"]
  p__law_cup : FunP K mg "_law_cup" st__law_cup ["script"]
  p__law_roll : FunP K mg "_law_roll" st__law_roll ["cup", "many"]
  p__law_some : FunP K mg "_law_some" st__law_some ["cup", "things"]
  p__law_post : FunP K mg "_law_post" st__law_post ["cup"]
  p__law_claims : FunP K mg "_law_claims" st__law_claims ["cup", "many"]
  p__law_plain_square : FunP K mg "_law_plain_square" st__law_plain_square ["post", "number"]
  p__law_ahead : FunP K mg "_law_ahead" st__law_ahead ["post", "claim", "seats", "other", "more"]
  p__law_grown : FunP K mg "_law_grown" st__law_grown ["claims", "post", "house", "low", "high"]
  p__law_rested : FunP K mg "_law_rested" st__law_rested ["claims", "house"]
  p__law_rows : FunP K mg "_law_rows" st__law_rows ["rule", "claims", "house"]
  p__law_rule : FunP K mg "_law_rule" st__law_rule ["cup"]
  p__law_some_claims : FunP K mg "_law_some_claims" st__law_some_claims ["cup", "most"]
  p__law_odd_rules : FunP K mg "_law_odd_rules" st__law_odd_rules ["post"]
  p_law : FunP K mg "law" st_law ["script"]
theorem all_ok (Z : Env K mg) (D : Funs K mg) : ∀ k, Cals P w K mg base L k
  | 0 => ⟨D.p_is_whole.cal (fun _ _ _ => fn_ok0) (callK_len T_is_whole rfl 0),
    D.p_is_integer.cal (fun _ _ _ => fn_ok0) (callK_len T_is_integer rfl 0),
    D.p_is_tuple_of.cal (fun _ _ _ => fn_ok0) (callK_len T_is_tuple_of rfl 0),
    D.p_common_divisor.cal (fun _ _ _ => fn_ok0) (callK_len T_common_divisor rfl 0),
    D.p_fits_ratio.cal (fun _ _ _ => fn_ok0) (callK_len T_fits_ratio rfl 0),
    D.p_made.cal (fun _ _ _ => fn_ok0) (callK_len T_made rfl 0),
    D.p_compared.cal (fun _ _ _ => fn_ok0) (callK_len T_compared rfl 0),
    D.p_fits_post.cal (fun _ _ _ => fn_ok0) (callK_len T_fits_post rfl 0),
    D.p_square_of.cal (fun _ _ _ => fn_ok0) (callK_len T_square_of rfl 0),
    D.p_need_number.cal (fun _ _ _ => fn_ok0) (callK_len T_need_number rfl 0),
    D.p_fits_claims.cal (fun _ _ _ => fn_ok0) (callK_len T_fits_claims rfl 0),
    D.p_sign_between.cal (fun _ _ _ => fn_ok0) (callK_len T_sign_between rfl 0),
    D.p_greatest_next.cal (fun _ _ _ => fn_ok0) (callK_len T_greatest_next rfl 0),
    D.p_least_given.cal (fun _ _ _ => fn_ok0) (callK_len T_least_given rfl 0),
    D.p_with_more.cal (fun _ _ _ => fn_ok0) (callK_len T_with_more rfl 0),
    D.p_one_in.cal (fun _ _ _ => fn_ok0) (callK_len T_one_in rfl 0),
    D.p_rows_in.cal (fun _ _ _ => fn_ok0) (callK_len T_rows_in rfl 0),
    D.p_need_claims.cal (fun _ _ _ => fn_ok0) (callK_len T_need_claims rfl 0),
    D.p_need_house.cal (fun _ _ _ => fn_ok0) (callK_len T_need_house rfl 0),
    D.p_quotas_in.cal (fun _ _ _ => fn_ok0) (callK_len T_quotas_in rfl 0),
    D.p_whole_of.cal (fun _ _ _ => fn_ok0) (callK_len T_whole_of rfl 0),
    D.p_bounds_by.cal (fun _ _ _ => fn_ok0) (callK_len T_bounds_by rfl 0),
    D.p_rests_in.cal (fun _ _ _ => fn_ok0) (callK_len T_rests_in rfl 0),
    D.p_fits_rule.cal (fun _ _ _ => fn_ok0) (callK_len T_fits_rule rfl 0),
    D.p_rows_of.cal (fun _ _ _ => fn_ok0) (callK_len T_rows_of rfl 0),
    D.p_need_rule.cal (fun _ _ _ => fn_ok0) (callK_len T_need_rule rfl 0),
    D.p_is_rule.cal (fun _ _ _ => fn_ok0) (callK_len T_is_rule rfl 0),
    D.p_rows_by.cal (fun _ _ _ => fn_ok0) (callK_len T_rows_by rfl 0),
    D.p__law_cup.cal (fun _ _ _ => fn_ok0) (callK_len T__law_cup rfl 0),
    D.p__law_roll.cal (fun _ _ _ => fn_ok0) (callK_len T__law_roll rfl 0),
    D.p__law_some.cal (fun _ _ _ => fn_ok0) (callK_len T__law_some rfl 0),
    D.p__law_post.cal (fun _ _ _ => fn_ok0) (callK_len T__law_post rfl 0),
    D.p__law_claims.cal (fun _ _ _ => fn_ok0) (callK_len T__law_claims rfl 0),
    D.p__law_plain_square.cal (fun _ _ _ => fn_ok0) (callK_len T__law_plain_square rfl 0),
    D.p__law_ahead.cal (fun _ _ _ => fn_ok0) (callK_len T__law_ahead rfl 0),
    D.p__law_grown.cal (fun _ _ _ => fn_ok0) (callK_len T__law_grown rfl 0),
    D.p__law_rested.cal (fun _ _ _ => fn_ok0) (callK_len T__law_rested rfl 0),
    D.p__law_rows.cal (fun _ _ _ => fn_ok0) (callK_len T__law_rows rfl 0),
    D.p__law_rule.cal (fun _ _ _ => fn_ok0) (callK_len T__law_rule rfl 0),
    D.p__law_some_claims.cal (fun _ _ _ => fn_ok0) (callK_len T__law_some_claims rfl 0),
    D.p__law_odd_rules.cal (fun _ _ _ => fn_ok0) (callK_len T__law_odd_rules rfl 0),
    D.p_law.cal (fun _ _ _ => fn_ok0) (callK_len T_law rfl 0)⟩
  | k + 1 => by
    have C := all_ok Z D k
    exact ⟨D.p_is_whole.cal (fun _ _ F => ok_is_whole F Z C) (callK_len T_is_whole rfl (k + 1)),
    D.p_is_integer.cal (fun _ _ F => ok_is_integer F Z C) (callK_len T_is_integer rfl (k + 1)),
    D.p_is_tuple_of.cal (fun _ _ F => ok_is_tuple_of F Z C) (callK_len T_is_tuple_of rfl (k + 1)),
    D.p_common_divisor.cal (fun _ _ F => ok_common_divisor F Z C) (callK_len T_common_divisor rfl (k + 1)),
    D.p_fits_ratio.cal (fun _ _ F => ok_fits_ratio F Z C) (callK_len T_fits_ratio rfl (k + 1)),
    D.p_made.cal (fun _ _ F => ok_made F Z C) (callK_len T_made rfl (k + 1)),
    D.p_compared.cal (fun _ _ F => ok_compared F Z C) (callK_len T_compared rfl (k + 1)),
    D.p_fits_post.cal (fun _ _ F => ok_fits_post F Z C) (callK_len T_fits_post rfl (k + 1)),
    D.p_square_of.cal (fun _ _ F => ok_square_of F Z C) (callK_len T_square_of rfl (k + 1)),
    D.p_need_number.cal (fun _ _ F => ok_need_number F Z C) (callK_len T_need_number rfl (k + 1)),
    D.p_fits_claims.cal (fun _ _ F => ok_fits_claims F Z C) (callK_len T_fits_claims rfl (k + 1)),
    D.p_sign_between.cal (fun _ _ F => ok_sign_between F Z C) (callK_len T_sign_between rfl (k + 1)),
    D.p_greatest_next.cal (fun _ _ F => ok_greatest_next F Z C) (callK_len T_greatest_next rfl (k + 1)),
    D.p_least_given.cal (fun _ _ F => ok_least_given F Z C) (callK_len T_least_given rfl (k + 1)),
    D.p_with_more.cal (fun _ _ F => ok_with_more F Z C) (callK_len T_with_more rfl (k + 1)),
    D.p_one_in.cal (fun _ _ F => ok_one_in F Z C) (callK_len T_one_in rfl (k + 1)),
    D.p_rows_in.cal (fun _ _ F => ok_rows_in F Z C) (callK_len T_rows_in rfl (k + 1)),
    D.p_need_claims.cal (fun _ _ F => ok_need_claims F Z C) (callK_len T_need_claims rfl (k + 1)),
    D.p_need_house.cal (fun _ _ F => ok_need_house F Z C) (callK_len T_need_house rfl (k + 1)),
    D.p_quotas_in.cal (fun _ _ F => ok_quotas_in F Z C) (callK_len T_quotas_in rfl (k + 1)),
    D.p_whole_of.cal (fun _ _ F => ok_whole_of F Z C) (callK_len T_whole_of rfl (k + 1)),
    D.p_bounds_by.cal (fun _ _ F => ok_bounds_by F Z C) (callK_len T_bounds_by rfl (k + 1)),
    D.p_rests_in.cal (fun _ _ F => ok_rests_in F Z C) (callK_len T_rests_in rfl (k + 1)),
    D.p_fits_rule.cal (fun _ _ F => ok_fits_rule F Z C) (callK_len T_fits_rule rfl (k + 1)),
    D.p_rows_of.cal (fun _ _ F => ok_rows_of F Z C) (callK_len T_rows_of rfl (k + 1)),
    D.p_need_rule.cal (fun _ _ F => ok_need_rule F Z C) (callK_len T_need_rule rfl (k + 1)),
    D.p_is_rule.cal (fun _ _ F => ok_is_rule F Z C) (callK_len T_is_rule rfl (k + 1)),
    D.p_rows_by.cal (fun _ _ F => ok_rows_by F Z C) (callK_len T_rows_by rfl (k + 1)),
    D.p__law_cup.cal (fun _ _ F => ok__law_cup F Z C) (callK_len T__law_cup rfl (k + 1)),
    D.p__law_roll.cal (fun _ _ F => ok__law_roll F Z C) (callK_len T__law_roll rfl (k + 1)),
    D.p__law_some.cal (fun _ _ F => ok__law_some F Z C) (callK_len T__law_some rfl (k + 1)),
    D.p__law_post.cal (fun _ _ F => ok__law_post F Z C) (callK_len T__law_post rfl (k + 1)),
    D.p__law_claims.cal (fun _ _ F => ok__law_claims F Z C) (callK_len T__law_claims rfl (k + 1)),
    D.p__law_plain_square.cal (fun _ _ F => ok__law_plain_square F Z C) (callK_len T__law_plain_square rfl (k + 1)),
    D.p__law_ahead.cal (fun _ _ F => ok__law_ahead F Z C) (callK_len T__law_ahead rfl (k + 1)),
    D.p__law_grown.cal (fun _ _ F => ok__law_grown F Z C) (callK_len T__law_grown rfl (k + 1)),
    D.p__law_rested.cal (fun _ _ F => ok__law_rested F Z C) (callK_len T__law_rested rfl (k + 1)),
    D.p__law_rows.cal (fun _ _ F => ok__law_rows F Z C) (callK_len T__law_rows rfl (k + 1)),
    D.p__law_rule.cal (fun _ _ F => ok__law_rule F Z C) (callK_len T__law_rule rfl (k + 1)),
    D.p__law_some_claims.cal (fun _ _ F => ok__law_some_claims F Z C) (callK_len T__law_some_claims rfl (k + 1)),
    D.p__law_odd_rules.cal (fun _ _ F => ok__law_odd_rules F Z C) (callK_len T__law_odd_rules rfl (k + 1)),
    D.p_law.cal (fun _ _ F => ok_law F Z C) (callK_len T_law rfl (k + 1))⟩
end
theorem all_mk {P : Program} {w : World} {K : PySem.W.Frag} {h : Heap} {mg : Str → Option Value} {fa : Addr} (X : K.In h) (GN : h.Ns mainGlobals mg) (hfa : mg "law" = some (.ref fa))
  {f0 : Addr} {oc0 kV0 dc0 pm0 cd0 ct0 : Value} {od0 an0 : Option Addr} {sl0 : Array (Option Value)}
  {f1 : Addr} {oc1 kV1 dc1 pm1 cd1 ct1 : Value} {od1 an1 : Option Addr} {sl1 : Array (Option Value)}
  {f2 : Addr} {oc2 kV2 dc2 pm2 cd2 ct2 : Value} {od2 an2 : Option Addr} {sl2 : Array (Option Value)}
  {f3 : Addr} {oc3 kV3 dc3 pm3 cd3 ct3 : Value} {od3 an3 : Option Addr} {sl3 : Array (Option Value)}
  {f4 : Addr} {oc4 kV4 dc4 pm4 cd4 ct4 : Value} {od4 an4 : Option Addr} {sl4 : Array (Option Value)}
  {f5 : Addr} {oc5 kV5 dc5 pm5 cd5 ct5 : Value} {od5 an5 : Option Addr} {sl5 : Array (Option Value)}
  {f6 : Addr} {oc6 kV6 dc6 pm6 cd6 ct6 : Value} {od6 an6 : Option Addr} {sl6 : Array (Option Value)}
  {f7 : Addr} {oc7 kV7 dc7 pm7 cd7 ct7 : Value} {od7 an7 : Option Addr} {sl7 : Array (Option Value)}
  {f8 : Addr} {oc8 kV8 dc8 pm8 cd8 ct8 : Value} {od8 an8 : Option Addr} {sl8 : Array (Option Value)}
  {f9 : Addr} {oc9 kV9 dc9 pm9 cd9 ct9 : Value} {od9 an9 : Option Addr} {sl9 : Array (Option Value)}
  {f10 : Addr} {oc10 kV10 dc10 pm10 cd10 ct10 : Value} {od10 an10 : Option Addr} {sl10 : Array (Option Value)}
  {f11 : Addr} {oc11 kV11 dc11 pm11 cd11 ct11 : Value} {od11 an11 : Option Addr} {sl11 : Array (Option Value)}
  {f12 : Addr} {oc12 kV12 dc12 pm12 cd12 ct12 : Value} {od12 an12 : Option Addr} {sl12 : Array (Option Value)}
  {f13 : Addr} {oc13 kV13 dc13 pm13 cd13 ct13 : Value} {od13 an13 : Option Addr} {sl13 : Array (Option Value)}
  {f14 : Addr} {oc14 kV14 dc14 pm14 cd14 ct14 : Value} {od14 an14 : Option Addr} {sl14 : Array (Option Value)}
  {f15 : Addr} {oc15 kV15 dc15 pm15 cd15 ct15 : Value} {od15 an15 : Option Addr} {sl15 : Array (Option Value)}
  {f16 : Addr} {oc16 kV16 dc16 pm16 cd16 ct16 : Value} {od16 an16 : Option Addr} {sl16 : Array (Option Value)}
  {f17 : Addr} {oc17 kV17 dc17 pm17 cd17 ct17 : Value} {od17 an17 : Option Addr} {sl17 : Array (Option Value)}
  {f18 : Addr} {oc18 kV18 dc18 pm18 cd18 ct18 : Value} {od18 an18 : Option Addr} {sl18 : Array (Option Value)}
  {f19 : Addr} {oc19 kV19 dc19 pm19 cd19 ct19 : Value} {od19 an19 : Option Addr} {sl19 : Array (Option Value)}
  {f20 : Addr} {oc20 kV20 dc20 pm20 cd20 ct20 : Value} {od20 an20 : Option Addr} {sl20 : Array (Option Value)}
  {f21 : Addr} {oc21 kV21 dc21 pm21 cd21 ct21 : Value} {od21 an21 : Option Addr} {sl21 : Array (Option Value)}
  {f22 : Addr} {oc22 kV22 dc22 pm22 cd22 ct22 : Value} {od22 an22 : Option Addr} {sl22 : Array (Option Value)}
  {f23 : Addr} {oc23 kV23 dc23 pm23 cd23 ct23 : Value} {od23 an23 : Option Addr} {sl23 : Array (Option Value)}
  {f24 : Addr} {oc24 kV24 dc24 pm24 cd24 ct24 : Value} {od24 an24 : Option Addr} {sl24 : Array (Option Value)}
  {f25 : Addr} {oc25 kV25 dc25 pm25 cd25 ct25 : Value} {od25 an25 : Option Addr} {sl25 : Array (Option Value)}
  {f26 : Addr} {oc26 kV26 dc26 pm26 cd26 ct26 : Value} {od26 an26 : Option Addr} {sl26 : Array (Option Value)}
  {f27 : Addr} {oc27 kV27 dc27 pm27 cd27 ct27 : Value} {od27 an27 : Option Addr} {sl27 : Array (Option Value)}
  {f28 : Addr} {oc28 kV28 dc28 pm28 cd28 ct28 : Value} {od28 an28 : Option Addr} {sl28 : Array (Option Value)}
  {f29 : Addr} {oc29 kV29 dc29 pm29 cd29 ct29 : Value} {od29 an29 : Option Addr} {sl29 : Array (Option Value)}
  {f30 : Addr} {oc30 kV30 dc30 pm30 cd30 ct30 : Value} {od30 an30 : Option Addr} {sl30 : Array (Option Value)}
  {f31 : Addr} {oc31 kV31 dc31 pm31 cd31 ct31 : Value} {od31 an31 : Option Addr} {sl31 : Array (Option Value)}
  {f32 : Addr} {oc32 kV32 dc32 pm32 cd32 ct32 : Value} {od32 an32 : Option Addr} {sl32 : Array (Option Value)}
  {f33 : Addr} {oc33 kV33 dc33 pm33 cd33 ct33 : Value} {od33 an33 : Option Addr} {sl33 : Array (Option Value)}
  {f34 : Addr} {oc34 kV34 dc34 pm34 cd34 ct34 : Value} {od34 an34 : Option Addr} {sl34 : Array (Option Value)}
  {f35 : Addr} {oc35 kV35 dc35 pm35 cd35 ct35 : Value} {od35 an35 : Option Addr} {sl35 : Array (Option Value)}
  {f36 : Addr} {oc36 kV36 dc36 pm36 cd36 ct36 : Value} {od36 an36 : Option Addr} {sl36 : Array (Option Value)}
  {f37 : Addr} {oc37 kV37 dc37 pm37 cd37 ct37 : Value} {od37 an37 : Option Addr} {sl37 : Array (Option Value)}
  {f38 : Addr} {oc38 kV38 dc38 pm38 cd38 ct38 : Value} {od38 an38 : Option Addr} {sl38 : Array (Option Value)}
  {f39 : Addr} {oc39 kV39 dc39 pm39 cd39 ct39 : Value} {od39 an39 : Option Addr} {sl39 : Array (Option Value)}
  {f40 : Addr} {oc40 kV40 dc40 pm40 cd40 ct40 : Value} {od40 an40 : Option Addr} {sl40 : Array (Option Value)}
  {f41 : Addr} {oc41 kV41 dc41 pm41 cd41 ct41 : Value} {od41 an41 : Option Addr} {sl41 : Array (Option Value)}
  {qt0 : Tok}
  {qt1 : Tok}
  {q2 : Addr} {qd2 : Option Addr} {qi2 : Array Value} {qn2 : Nat} {qs2 : Array (Option Value)}
  {qt3 : Tok}
  {q4 : Addr} {qd4 : Option Addr} {qi4 : Array Value} {qn4 : Nat} {qs4 : Array (Option Value)}
  {C0 : Addr}
  {C1 : Addr}
  {C2 : Addr}
  {C3 : Addr}
  (h_a0 : PySem.W.nsIn K mainGlobals "is_whole" = some (some (.ref f0)))
  (h_l0 : K.lookup f0 = some ⟨oc0, od0, .func (PySem.W.fnOf "is_whole" "is_whole" (defArgs st_is_whole) (defBody st_is_whole) (defScope st_is_whole) .none kV0 dc0 pm0 an0 cd0 ct0), sl0⟩)
  (h_c0 : PySem.W.codeIn K cd0 "is_whole" = true)
  (h_k0 : PySem.W.keepIn K (.ref f0) = true)
  (h_a1 : PySem.W.nsIn K mainGlobals "is_integer" = some (some (.ref f1)))
  (h_l1 : K.lookup f1 = some ⟨oc1, od1, .func (PySem.W.fnOf "is_integer" "is_integer" (defArgs st_is_integer) (defBody st_is_integer) (defScope st_is_integer) .none kV1 dc1 pm1 an1 cd1 ct1), sl1⟩)
  (h_c1 : PySem.W.codeIn K cd1 "is_integer" = true)
  (h_k1 : PySem.W.keepIn K (.ref f1) = true)
  (h_a2 : PySem.W.nsIn K mainGlobals "is_tuple_of" = some (some (.ref f2)))
  (h_l2 : K.lookup f2 = some ⟨oc2, od2, .func (PySem.W.fnOf "is_tuple_of" "is_tuple_of" (defArgs st_is_tuple_of) (defBody st_is_tuple_of) (defScope st_is_tuple_of) .none kV2 dc2 pm2 an2 cd2 ct2), sl2⟩)
  (h_c2 : PySem.W.codeIn K cd2 "is_tuple_of" = true)
  (h_k2 : PySem.W.keepIn K (.ref f2) = true)
  (h_a3 : PySem.W.nsIn K mainGlobals "common_divisor" = some (some (.ref f3)))
  (h_l3 : K.lookup f3 = some ⟨oc3, od3, .func (PySem.W.fnOf "common_divisor" "common_divisor" (defArgs st_common_divisor) (defBody st_common_divisor) (defScope st_common_divisor) .none kV3 dc3 pm3 an3 cd3 ct3), sl3⟩)
  (h_c3 : PySem.W.codeIn K cd3 "common_divisor" = true)
  (h_k3 : PySem.W.keepIn K (.ref f3) = true)
  (h_a4 : PySem.W.nsIn K mainGlobals "fits_ratio" = some (some (.ref f4)))
  (h_l4 : K.lookup f4 = some ⟨oc4, od4, .func (PySem.W.fnOf "fits_ratio" "fits_ratio" (defArgs st_fits_ratio) (defBody st_fits_ratio) (defScope st_fits_ratio) .none kV4 dc4 pm4 an4 cd4 ct4), sl4⟩)
  (h_c4 : PySem.W.codeIn K cd4 "fits_ratio" = true)
  (h_k4 : PySem.W.keepIn K (.ref f4) = true)
  (h_a5 : PySem.W.nsIn K mainGlobals "made" = some (some (.ref f5)))
  (h_l5 : K.lookup f5 = some ⟨oc5, od5, .func (PySem.W.fnOf "made" "made" (defArgs st_made) (defBody st_made) (defScope st_made) .none kV5 dc5 pm5 an5 cd5 ct5), sl5⟩)
  (h_c5 : PySem.W.codeIn K cd5 "made" = true)
  (h_k5 : PySem.W.keepIn K (.ref f5) = true)
  (h_a6 : PySem.W.nsIn K mainGlobals "compared" = some (some (.ref f6)))
  (h_l6 : K.lookup f6 = some ⟨oc6, od6, .func (PySem.W.fnOf "compared" "compared" (defArgs st_compared) (defBody st_compared) (defScope st_compared) .none kV6 dc6 pm6 an6 cd6 ct6), sl6⟩)
  (h_c6 : PySem.W.codeIn K cd6 "compared" = true)
  (h_k6 : PySem.W.keepIn K (.ref f6) = true)
  (h_a7 : PySem.W.nsIn K mainGlobals "fits_post" = some (some (.ref f7)))
  (h_l7 : K.lookup f7 = some ⟨oc7, od7, .func (PySem.W.fnOf "fits_post" "fits_post" (defArgs st_fits_post) (defBody st_fits_post) (defScope st_fits_post) .none kV7 dc7 pm7 an7 cd7 ct7), sl7⟩)
  (h_c7 : PySem.W.codeIn K cd7 "fits_post" = true)
  (h_k7 : PySem.W.keepIn K (.ref f7) = true)
  (h_a8 : PySem.W.nsIn K mainGlobals "square_of" = some (some (.ref f8)))
  (h_l8 : K.lookup f8 = some ⟨oc8, od8, .func (PySem.W.fnOf "square_of" "square_of" (defArgs st_square_of) (defBody st_square_of) (defScope st_square_of) .none kV8 dc8 pm8 an8 cd8 ct8), sl8⟩)
  (h_c8 : PySem.W.codeIn K cd8 "square_of" = true)
  (h_k8 : PySem.W.keepIn K (.ref f8) = true)
  (h_a9 : PySem.W.nsIn K mainGlobals "need_number" = some (some (.ref f9)))
  (h_l9 : K.lookup f9 = some ⟨oc9, od9, .func (PySem.W.fnOf "need_number" "need_number" (defArgs st_need_number) (defBody st_need_number) (defScope st_need_number) .none kV9 dc9 pm9 an9 cd9 ct9), sl9⟩)
  (h_c9 : PySem.W.codeIn K cd9 "need_number" = true)
  (h_k9 : PySem.W.keepIn K (.ref f9) = true)
  (h_a10 : PySem.W.nsIn K mainGlobals "fits_claims" = some (some (.ref f10)))
  (h_l10 : K.lookup f10 = some ⟨oc10, od10, .func (PySem.W.fnOf "fits_claims" "fits_claims" (defArgs st_fits_claims) (defBody st_fits_claims) (defScope st_fits_claims) .none kV10 dc10 pm10 an10 cd10 ct10), sl10⟩)
  (h_c10 : PySem.W.codeIn K cd10 "fits_claims" = true)
  (h_k10 : PySem.W.keepIn K (.ref f10) = true)
  (h_a11 : PySem.W.nsIn K mainGlobals "sign_between" = some (some (.ref f11)))
  (h_l11 : K.lookup f11 = some ⟨oc11, od11, .func (PySem.W.fnOf "sign_between" "sign_between" (defArgs st_sign_between) (defBody st_sign_between) (defScope st_sign_between) .none kV11 dc11 pm11 an11 cd11 ct11), sl11⟩)
  (h_c11 : PySem.W.codeIn K cd11 "sign_between" = true)
  (h_k11 : PySem.W.keepIn K (.ref f11) = true)
  (h_a12 : PySem.W.nsIn K mainGlobals "greatest_next" = some (some (.ref f12)))
  (h_l12 : K.lookup f12 = some ⟨oc12, od12, .func (PySem.W.fnOf "greatest_next" "greatest_next" (defArgs st_greatest_next) (defBody st_greatest_next) (defScope st_greatest_next) .none kV12 dc12 pm12 an12 cd12 ct12), sl12⟩)
  (h_c12 : PySem.W.codeIn K cd12 "greatest_next" = true)
  (h_k12 : PySem.W.keepIn K (.ref f12) = true)
  (h_a13 : PySem.W.nsIn K mainGlobals "least_given" = some (some (.ref f13)))
  (h_l13 : K.lookup f13 = some ⟨oc13, od13, .func (PySem.W.fnOf "least_given" "least_given" (defArgs st_least_given) (defBody st_least_given) (defScope st_least_given) .none kV13 dc13 pm13 an13 cd13 ct13), sl13⟩)
  (h_c13 : PySem.W.codeIn K cd13 "least_given" = true)
  (h_k13 : PySem.W.keepIn K (.ref f13) = true)
  (h_a14 : PySem.W.nsIn K mainGlobals "with_more" = some (some (.ref f14)))
  (h_l14 : K.lookup f14 = some ⟨oc14, od14, .func (PySem.W.fnOf "with_more" "with_more" (defArgs st_with_more) (defBody st_with_more) (defScope st_with_more) .none kV14 dc14 pm14 an14 cd14 ct14), sl14⟩)
  (h_c14 : PySem.W.codeIn K cd14 "with_more" = true)
  (h_k14 : PySem.W.keepIn K (.ref f14) = true)
  (h_a15 : PySem.W.nsIn K mainGlobals "one_in" = some (some (.ref f15)))
  (h_l15 : K.lookup f15 = some ⟨oc15, od15, .func (PySem.W.fnOf "one_in" "one_in" (defArgs st_one_in) (defBody st_one_in) (defScope st_one_in) .none kV15 dc15 pm15 an15 cd15 ct15), sl15⟩)
  (h_c15 : PySem.W.codeIn K cd15 "one_in" = true)
  (h_k15 : PySem.W.keepIn K (.ref f15) = true)
  (h_a16 : PySem.W.nsIn K mainGlobals "rows_in" = some (some (.ref f16)))
  (h_l16 : K.lookup f16 = some ⟨oc16, od16, .func (PySem.W.fnOf "rows_in" "rows_in" (defArgs st_rows_in) (defBody st_rows_in) (defScope st_rows_in) .none kV16 dc16 pm16 an16 cd16 ct16), sl16⟩)
  (h_c16 : PySem.W.codeIn K cd16 "rows_in" = true)
  (h_k16 : PySem.W.keepIn K (.ref f16) = true)
  (h_a17 : PySem.W.nsIn K mainGlobals "need_claims" = some (some (.ref f17)))
  (h_l17 : K.lookup f17 = some ⟨oc17, od17, .func (PySem.W.fnOf "need_claims" "need_claims" (defArgs st_need_claims) (defBody st_need_claims) (defScope st_need_claims) .none kV17 dc17 pm17 an17 cd17 ct17), sl17⟩)
  (h_c17 : PySem.W.codeIn K cd17 "need_claims" = true)
  (h_k17 : PySem.W.keepIn K (.ref f17) = true)
  (h_a18 : PySem.W.nsIn K mainGlobals "need_house" = some (some (.ref f18)))
  (h_l18 : K.lookup f18 = some ⟨oc18, od18, .func (PySem.W.fnOf "need_house" "need_house" (defArgs st_need_house) (defBody st_need_house) (defScope st_need_house) .none kV18 dc18 pm18 an18 cd18 ct18), sl18⟩)
  (h_c18 : PySem.W.codeIn K cd18 "need_house" = true)
  (h_k18 : PySem.W.keepIn K (.ref f18) = true)
  (h_a19 : PySem.W.nsIn K mainGlobals "quotas_in" = some (some (.ref f19)))
  (h_l19 : K.lookup f19 = some ⟨oc19, od19, .func (PySem.W.fnOf "quotas_in" "quotas_in" (defArgs st_quotas_in) (defBody st_quotas_in) (defScope st_quotas_in) .none kV19 dc19 pm19 an19 cd19 ct19), sl19⟩)
  (h_c19 : PySem.W.codeIn K cd19 "quotas_in" = true)
  (h_k19 : PySem.W.keepIn K (.ref f19) = true)
  (h_a20 : PySem.W.nsIn K mainGlobals "whole_of" = some (some (.ref f20)))
  (h_l20 : K.lookup f20 = some ⟨oc20, od20, .func (PySem.W.fnOf "whole_of" "whole_of" (defArgs st_whole_of) (defBody st_whole_of) (defScope st_whole_of) .none kV20 dc20 pm20 an20 cd20 ct20), sl20⟩)
  (h_c20 : PySem.W.codeIn K cd20 "whole_of" = true)
  (h_k20 : PySem.W.keepIn K (.ref f20) = true)
  (h_a21 : PySem.W.nsIn K mainGlobals "bounds_by" = some (some (.ref f21)))
  (h_l21 : K.lookup f21 = some ⟨oc21, od21, .func (PySem.W.fnOf "bounds_by" "bounds_by" (defArgs st_bounds_by) (defBody st_bounds_by) (defScope st_bounds_by) .none kV21 dc21 pm21 an21 cd21 ct21), sl21⟩)
  (h_c21 : PySem.W.codeIn K cd21 "bounds_by" = true)
  (h_k21 : PySem.W.keepIn K (.ref f21) = true)
  (h_a22 : PySem.W.nsIn K mainGlobals "rests_in" = some (some (.ref f22)))
  (h_l22 : K.lookup f22 = some ⟨oc22, od22, .func (PySem.W.fnOf "rests_in" "rests_in" (defArgs st_rests_in) (defBody st_rests_in) (defScope st_rests_in) .none kV22 dc22 pm22 an22 cd22 ct22), sl22⟩)
  (h_c22 : PySem.W.codeIn K cd22 "rests_in" = true)
  (h_k22 : PySem.W.keepIn K (.ref f22) = true)
  (h_a23 : PySem.W.nsIn K mainGlobals "fits_rule" = some (some (.ref f23)))
  (h_l23 : K.lookup f23 = some ⟨oc23, od23, .func (PySem.W.fnOf "fits_rule" "fits_rule" (defArgs st_fits_rule) (defBody st_fits_rule) (defScope st_fits_rule) .none kV23 dc23 pm23 an23 cd23 ct23), sl23⟩)
  (h_c23 : PySem.W.codeIn K cd23 "fits_rule" = true)
  (h_k23 : PySem.W.keepIn K (.ref f23) = true)
  (h_a24 : PySem.W.nsIn K mainGlobals "rows_of" = some (some (.ref f24)))
  (h_l24 : K.lookup f24 = some ⟨oc24, od24, .func (PySem.W.fnOf "rows_of" "rows_of" (defArgs st_rows_of) (defBody st_rows_of) (defScope st_rows_of) .none kV24 dc24 pm24 an24 cd24 ct24), sl24⟩)
  (h_c24 : PySem.W.codeIn K cd24 "rows_of" = true)
  (h_k24 : PySem.W.keepIn K (.ref f24) = true)
  (h_a25 : PySem.W.nsIn K mainGlobals "need_rule" = some (some (.ref f25)))
  (h_l25 : K.lookup f25 = some ⟨oc25, od25, .func (PySem.W.fnOf "need_rule" "need_rule" (defArgs st_need_rule) (defBody st_need_rule) (defScope st_need_rule) .none kV25 dc25 pm25 an25 cd25 ct25), sl25⟩)
  (h_c25 : PySem.W.codeIn K cd25 "need_rule" = true)
  (h_k25 : PySem.W.keepIn K (.ref f25) = true)
  (h_a26 : PySem.W.nsIn K mainGlobals "is_rule" = some (some (.ref f26)))
  (h_l26 : K.lookup f26 = some ⟨oc26, od26, .func (PySem.W.fnOf "is_rule" "is_rule" (defArgs st_is_rule) (defBody st_is_rule) (defScope st_is_rule) .none kV26 dc26 pm26 an26 cd26 ct26), sl26⟩)
  (h_c26 : PySem.W.codeIn K cd26 "is_rule" = true)
  (h_k26 : PySem.W.keepIn K (.ref f26) = true)
  (h_a27 : PySem.W.nsIn K mainGlobals "rows_by" = some (some (.ref f27)))
  (h_l27 : K.lookup f27 = some ⟨oc27, od27, .func (PySem.W.fnOf "rows_by" "rows_by" (defArgs st_rows_by) (defBody st_rows_by) (defScope st_rows_by) .none kV27 dc27 pm27 an27 cd27 ct27), sl27⟩)
  (h_c27 : PySem.W.codeIn K cd27 "rows_by" = true)
  (h_k27 : PySem.W.keepIn K (.ref f27) = true)
  (h_a28 : PySem.W.nsIn K mainGlobals "_law_cup" = some (some (.ref f28)))
  (h_l28 : K.lookup f28 = some ⟨oc28, od28, .func (PySem.W.fnOf "_law_cup" "_law_cup" (defArgs st__law_cup) (defBody st__law_cup) (defScope st__law_cup) .none kV28 dc28 pm28 an28 cd28 ct28), sl28⟩)
  (h_c28 : PySem.W.codeIn K cd28 "_law_cup" = true)
  (h_k28 : PySem.W.keepIn K (.ref f28) = true)
  (h_a29 : PySem.W.nsIn K mainGlobals "_law_roll" = some (some (.ref f29)))
  (h_l29 : K.lookup f29 = some ⟨oc29, od29, .func (PySem.W.fnOf "_law_roll" "_law_roll" (defArgs st__law_roll) (defBody st__law_roll) (defScope st__law_roll) .none kV29 dc29 pm29 an29 cd29 ct29), sl29⟩)
  (h_c29 : PySem.W.codeIn K cd29 "_law_roll" = true)
  (h_k29 : PySem.W.keepIn K (.ref f29) = true)
  (h_a30 : PySem.W.nsIn K mainGlobals "_law_some" = some (some (.ref f30)))
  (h_l30 : K.lookup f30 = some ⟨oc30, od30, .func (PySem.W.fnOf "_law_some" "_law_some" (defArgs st__law_some) (defBody st__law_some) (defScope st__law_some) .none kV30 dc30 pm30 an30 cd30 ct30), sl30⟩)
  (h_c30 : PySem.W.codeIn K cd30 "_law_some" = true)
  (h_k30 : PySem.W.keepIn K (.ref f30) = true)
  (h_a31 : PySem.W.nsIn K mainGlobals "_law_post" = some (some (.ref f31)))
  (h_l31 : K.lookup f31 = some ⟨oc31, od31, .func (PySem.W.fnOf "_law_post" "_law_post" (defArgs st__law_post) (defBody st__law_post) (defScope st__law_post) .none kV31 dc31 pm31 an31 cd31 ct31), sl31⟩)
  (h_c31 : PySem.W.codeIn K cd31 "_law_post" = true)
  (h_k31 : PySem.W.keepIn K (.ref f31) = true)
  (h_a32 : PySem.W.nsIn K mainGlobals "_law_claims" = some (some (.ref f32)))
  (h_l32 : K.lookup f32 = some ⟨oc32, od32, .func (PySem.W.fnOf "_law_claims" "_law_claims" (defArgs st__law_claims) (defBody st__law_claims) (defScope st__law_claims) .none kV32 dc32 pm32 an32 cd32 ct32), sl32⟩)
  (h_c32 : PySem.W.codeIn K cd32 "_law_claims" = true)
  (h_k32 : PySem.W.keepIn K (.ref f32) = true)
  (h_a33 : PySem.W.nsIn K mainGlobals "_law_plain_square" = some (some (.ref f33)))
  (h_l33 : K.lookup f33 = some ⟨oc33, od33, .func (PySem.W.fnOf "_law_plain_square" "_law_plain_square" (defArgs st__law_plain_square) (defBody st__law_plain_square) (defScope st__law_plain_square) .none kV33 dc33 pm33 an33 cd33 ct33), sl33⟩)
  (h_c33 : PySem.W.codeIn K cd33 "_law_plain_square" = true)
  (h_k33 : PySem.W.keepIn K (.ref f33) = true)
  (h_a34 : PySem.W.nsIn K mainGlobals "_law_ahead" = some (some (.ref f34)))
  (h_l34 : K.lookup f34 = some ⟨oc34, od34, .func (PySem.W.fnOf "_law_ahead" "_law_ahead" (defArgs st__law_ahead) (defBody st__law_ahead) (defScope st__law_ahead) .none kV34 dc34 pm34 an34 cd34 ct34), sl34⟩)
  (h_c34 : PySem.W.codeIn K cd34 "_law_ahead" = true)
  (h_k34 : PySem.W.keepIn K (.ref f34) = true)
  (h_a35 : PySem.W.nsIn K mainGlobals "_law_grown" = some (some (.ref f35)))
  (h_l35 : K.lookup f35 = some ⟨oc35, od35, .func (PySem.W.fnOf "_law_grown" "_law_grown" (defArgs st__law_grown) (defBody st__law_grown) (defScope st__law_grown) .none kV35 dc35 pm35 an35 cd35 ct35), sl35⟩)
  (h_c35 : PySem.W.codeIn K cd35 "_law_grown" = true)
  (h_k35 : PySem.W.keepIn K (.ref f35) = true)
  (h_a36 : PySem.W.nsIn K mainGlobals "_law_rested" = some (some (.ref f36)))
  (h_l36 : K.lookup f36 = some ⟨oc36, od36, .func (PySem.W.fnOf "_law_rested" "_law_rested" (defArgs st__law_rested) (defBody st__law_rested) (defScope st__law_rested) .none kV36 dc36 pm36 an36 cd36 ct36), sl36⟩)
  (h_c36 : PySem.W.codeIn K cd36 "_law_rested" = true)
  (h_k36 : PySem.W.keepIn K (.ref f36) = true)
  (h_a37 : PySem.W.nsIn K mainGlobals "_law_rows" = some (some (.ref f37)))
  (h_l37 : K.lookup f37 = some ⟨oc37, od37, .func (PySem.W.fnOf "_law_rows" "_law_rows" (defArgs st__law_rows) (defBody st__law_rows) (defScope st__law_rows) .none kV37 dc37 pm37 an37 cd37 ct37), sl37⟩)
  (h_c37 : PySem.W.codeIn K cd37 "_law_rows" = true)
  (h_k37 : PySem.W.keepIn K (.ref f37) = true)
  (h_a38 : PySem.W.nsIn K mainGlobals "_law_rule" = some (some (.ref f38)))
  (h_l38 : K.lookup f38 = some ⟨oc38, od38, .func (PySem.W.fnOf "_law_rule" "_law_rule" (defArgs st__law_rule) (defBody st__law_rule) (defScope st__law_rule) .none kV38 dc38 pm38 an38 cd38 ct38), sl38⟩)
  (h_c38 : PySem.W.codeIn K cd38 "_law_rule" = true)
  (h_k38 : PySem.W.keepIn K (.ref f38) = true)
  (h_a39 : PySem.W.nsIn K mainGlobals "_law_some_claims" = some (some (.ref f39)))
  (h_l39 : K.lookup f39 = some ⟨oc39, od39, .func (PySem.W.fnOf "_law_some_claims" "_law_some_claims" (defArgs st__law_some_claims) (defBody st__law_some_claims) (defScope st__law_some_claims) .none kV39 dc39 pm39 an39 cd39 ct39), sl39⟩)
  (h_c39 : PySem.W.codeIn K cd39 "_law_some_claims" = true)
  (h_k39 : PySem.W.keepIn K (.ref f39) = true)
  (h_a40 : PySem.W.nsIn K mainGlobals "_law_odd_rules" = some (some (.ref f40)))
  (h_l40 : K.lookup f40 = some ⟨oc40, od40, .func (PySem.W.fnOf "_law_odd_rules" "_law_odd_rules" (defArgs st__law_odd_rules) (defBody st__law_odd_rules) (defScope st__law_odd_rules) .none kV40 dc40 pm40 an40 cd40 ct40), sl40⟩)
  (h_c40 : PySem.W.codeIn K cd40 "_law_odd_rules" = true)
  (h_k40 : PySem.W.keepIn K (.ref f40) = true)
  (h_a41 : PySem.W.nsIn K mainGlobals "law" = some (some (.ref f41)))
  (h_l41 : K.lookup f41 = some ⟨oc41, od41, .func (PySem.W.fnOf "law" "law" (defArgs st_law) (defBody st_law) (defScope st_law) .none kV41 dc41 pm41 an41 cd41 ct41), sl41⟩)
  (h_c41 : PySem.W.codeIn K cd41 "law" = true)
  (h_k41 : PySem.W.keepIn K (.ref f41) = true)
  (h_z0 : PySem.W.nsIn K mainGlobals "abs" = some none)
  (h_z1 : PySem.W.nsIn K mainGlobals "all" = some none)
  (h_z2 : PySem.W.nsIn K mainGlobals "bool" = some none)
  (h_z3 : PySem.W.nsIn K mainGlobals "enumerate" = some none)
  (h_z4 : PySem.W.nsIn K mainGlobals "int" = some none)
  (h_z5 : PySem.W.nsIn K mainGlobals "isinstance" = some none)
  (h_z6 : PySem.W.nsIn K mainGlobals "len" = some none)
  (h_z7 : PySem.W.nsIn K mainGlobals "list" = some none)
  (h_z8 : PySem.W.nsIn K mainGlobals "max" = some none)
  (h_z9 : PySem.W.nsIn K mainGlobals "range" = some none)
  (h_z10 : PySem.W.nsIn K mainGlobals "repr" = some none)
  (h_z11 : PySem.W.nsIn K mainGlobals "set" = some none)
  (h_z12 : PySem.W.nsIn K mainGlobals "sorted" = some none)
  (h_z13 : PySem.W.nsIn K mainGlobals "str" = some none)
  (h_z14 : PySem.W.nsIn K mainGlobals "sum" = some none)
  (h_z15 : PySem.W.nsIn K mainGlobals "tuple" = some none)
  (h_g0 : PySem.W.nsIn K mainGlobals "CLAIM" = some (some (.int 1000000 qt0)))
  (h_g1 : PySem.W.nsIn K mainGlobals "CLAIMS" = some (some (.int 8 qt1)))
  (h_g2 : PySem.W.nsIn K mainGlobals "ONE" = some (some (.ref q2)))
  (h_gl2 : K.lookup q2 = some ⟨.type "tuple", qd2, .seq qi2 qn2, qs2⟩)
  (h_gv2 : (atomsOk [(.int 1), (.int 1)] qi2.toList && Nat.ble qi2.size 1000) = true)
  (h_g3 : PySem.W.nsIn K mainGlobals "SEATS" = some (some (.int 400 qt3)))
  (h_g4 : PySem.W.nsIn K mainGlobals "ZERO" = some (some (.ref q4)))
  (h_gl4 : K.lookup q4 = some ⟨.type "tuple", qd4, .seq qi4 qn4, qs4⟩)
  (h_gv4 : (atomsOk [(.int 0), (.int 1)] qi4.toList && Nat.ble qi4.size 1000) = true)
  (h_e0 : PySem.W.nsIn K mainGlobals "InvalidClaims" = some (some (.ref C0)))
  (h_eq0 : PySem.W.excIn K C0 [.type "ValueError", .type "Exception", .type "BaseException", .type "object"] "ValueError.__new__" = true)
  (h_ek0 : PySem.W.keepIn K (.ref C0) = true)
  (h_es0 : PySem.W.subIn K (.ref C0) (.type "BaseException") = some true)
  (h_et0 : PySem.W.typeIn K (.ref C0) = some (.type "type"))
  (h_e1 : PySem.W.nsIn K mainGlobals "InvalidNumber" = some (some (.ref C1)))
  (h_eq1 : PySem.W.excIn K C1 [.type "ValueError", .type "Exception", .type "BaseException", .type "object"] "ValueError.__new__" = true)
  (h_ek1 : PySem.W.keepIn K (.ref C1) = true)
  (h_es1 : PySem.W.subIn K (.ref C1) (.type "BaseException") = some true)
  (h_et1 : PySem.W.typeIn K (.ref C1) = some (.type "type"))
  (h_e2 : PySem.W.nsIn K mainGlobals "InvalidRule" = some (some (.ref C2)))
  (h_eq2 : PySem.W.excIn K C2 [.type "ValueError", .type "Exception", .type "BaseException", .type "object"] "ValueError.__new__" = true)
  (h_ek2 : PySem.W.keepIn K (.ref C2) = true)
  (h_es2 : PySem.W.subIn K (.ref C2) (.type "BaseException") = some true)
  (h_et2 : PySem.W.typeIn K (.ref C2) = some (.type "type"))
  (h_e3 : PySem.W.nsIn K mainGlobals "NoQuotas" = some (some (.ref C3)))
  (h_eq3 : PySem.W.excIn K C3 [.type "ValueError", .type "Exception", .type "BaseException", .type "object"] "ValueError.__new__" = true)
  (h_ek3 : PySem.W.keepIn K (.ref C3) = true)
  (h_es3 : PySem.W.subIn K (.ref C3) (.type "BaseException") = some true)
  (h_et3 : PySem.W.typeIn K (.ref C3) = some (.type "type")) :
  ∃ fd : FuncData, (∀ (s : Shared) (u : Value), BindsTo s fd ⟨[u], []⟩ [("script", u)]) ∧ ∀ base : Heap, K.In base → base.Ns mainGlobals mg → FnG P w K mg base 20 fa fd ["script"] (spM K mg 1 (callK none T 20 95)) := by
  have p_is_whole : FunP K mg "is_whole" st_is_whole ["value", "low", "high"] := FunP.mk' X GN h_a0 h_l0 h_c0 h_k0 fun _ _ _ _ _ _ us hl => match us, hl with | [_, _, _], _ => rfl
  have p_is_integer : FunP K mg "is_integer" st_is_integer ["value"] := FunP.mk' X GN h_a1 h_l1 h_c1 h_k1 fun _ _ _ _ _ _ us hl => match us, hl with | [_], _ => rfl
  have p_is_tuple_of : FunP K mg "is_tuple_of" st_is_tuple_of ["value", "low", "high"] := FunP.mk' X GN h_a2 h_l2 h_c2 h_k2 fun _ _ _ _ _ _ us hl => match us, hl with | [_, _, _], _ => rfl
  have p_common_divisor : FunP K mg "common_divisor" st_common_divisor ["one", "other"] := FunP.mk' X GN h_a3 h_l3 h_c3 h_k3 fun _ _ _ _ _ _ us hl => match us, hl with | [_, _], _ => rfl
  have p_fits_ratio : FunP K mg "fits_ratio" st_fits_ratio ["value"] := FunP.mk' X GN h_a4 h_l4 h_c4 h_k4 fun _ _ _ _ _ _ us hl => match us, hl with | [_], _ => rfl
  have p_made : FunP K mg "made" st_made ["above", "below"] := FunP.mk' X GN h_a5 h_l5 h_c5 h_k5 fun _ _ _ _ _ _ us hl => match us, hl with | [_, _], _ => rfl
  have p_compared : FunP K mg "compared" st_compared ["one", "other"] := FunP.mk' X GN h_a6 h_l6 h_c6 h_k6 fun _ _ _ _ _ _ us hl => match us, hl with | [_, _], _ => rfl
  have p_fits_post : FunP K mg "fits_post" st_fits_post ["value"] := FunP.mk' X GN h_a7 h_l7 h_c7 h_k7 fun _ _ _ _ _ _ us hl => match us, hl with | [_], _ => rfl
  have p_square_of : FunP K mg "square_of" st_square_of ["post", "number"] := FunP.mk' X GN h_a8 h_l8 h_c8 h_k8 fun _ _ _ _ _ _ us hl => match us, hl with | [_, _], _ => rfl
  have p_need_number : FunP K mg "need_number" st_need_number ["value", "low", "high"] := FunP.mk' X GN h_a9 h_l9 h_c9 h_k9 fun _ _ _ _ _ _ us hl => match us, hl with | [_, _, _], _ => rfl
  have p_fits_claims : FunP K mg "fits_claims" st_fits_claims ["value"] := FunP.mk' X GN h_a10 h_l10 h_c10 h_k10 fun _ _ _ _ _ _ us hl => match us, hl with | [_], _ => rfl
  have p_sign_between : FunP K mg "sign_between" st_sign_between ["post", "claim", "seats", "other", "more"] := FunP.mk' X GN h_a11 h_l11 h_c11 h_k11 fun _ _ _ _ _ _ us hl => match us, hl with | [_, _, _, _, _], _ => rfl
  have p_greatest_next : FunP K mg "greatest_next" st_greatest_next ["claims", "post", "bounds", "row"] := FunP.mk' X GN h_a12 h_l12 h_c12 h_k12 fun _ _ _ _ _ _ us hl => match us, hl with | [_, _, _, _], _ => rfl
  have p_least_given : FunP K mg "least_given" st_least_given ["claims", "post", "bounds", "row"] := FunP.mk' X GN h_a13 h_l13 h_c13 h_k13 fun _ _ _ _ _ _ us hl => match us, hl with | [_, _, _, _], _ => rfl
  have p_with_more : FunP K mg "with_more" st_with_more ["base", "places", "many"] := FunP.mk' X GN h_a14 h_l14 h_c14 h_k14 fun _ _ _ _ _ _ us hl => match us, hl with | [_, _, _], _ => rfl
  have p_one_in : FunP K mg "one_in" st_one_in ["claims", "post", "bounds", "house"] := FunP.mk' X GN h_a15 h_l15 h_c15 h_k15 fun _ _ _ _ _ _ us hl => match us, hl with | [_, _, _, _], _ => rfl
  have p_rows_in : FunP K mg "rows_in" st_rows_in ["claims", "post", "bounds", "house"] := FunP.mk' X GN h_a16 h_l16 h_c16 h_k16 fun _ _ _ _ _ _ us hl => match us, hl with | [_, _, _, _], _ => rfl
  have p_need_claims : FunP K mg "need_claims" st_need_claims ["value"] := FunP.mk' X GN h_a17 h_l17 h_c17 h_k17 fun _ _ _ _ _ _ us hl => match us, hl with | [_], _ => rfl
  have p_need_house : FunP K mg "need_house" st_need_house ["value"] := FunP.mk' X GN h_a18 h_l18 h_c18 h_k18 fun _ _ _ _ _ _ us hl => match us, hl with | [_], _ => rfl
  have p_quotas_in : FunP K mg "quotas_in" st_quotas_in ["claims", "house"] := FunP.mk' X GN h_a19 h_l19 h_c19 h_k19 fun _ _ _ _ _ _ us hl => match us, hl with | [_, _], _ => rfl
  have p_whole_of : FunP K mg "whole_of" st_whole_of ["quota"] := FunP.mk' X GN h_a20 h_l20 h_c20 h_k20 fun _ _ _ _ _ _ us hl => match us, hl with | [_], _ => rfl
  have p_bounds_by : FunP K mg "bounds_by" st_bounds_by ["quotas"] := FunP.mk' X GN h_a21 h_l21 h_c21 h_k21 fun _ _ _ _ _ _ us hl => match us, hl with | [_], _ => rfl
  have p_rests_in : FunP K mg "rests_in" st_rests_in ["claims", "house"] := FunP.mk' X GN h_a22 h_l22 h_c22 h_k22 fun _ _ _ _ _ _ us hl => match us, hl with | [_, _], _ => rfl
  have p_fits_rule : FunP K mg "fits_rule" st_fits_rule ["value"] := FunP.mk' X GN h_a23 h_l23 h_c23 h_k23 fun _ _ _ _ _ _ us hl => match us, hl with | [_], _ => rfl
  have p_rows_of : FunP K mg "rows_of" st_rows_of ["rule", "claims", "house"] := FunP.mk' X GN h_a24 h_l24 h_c24 h_k24 fun _ _ _ _ _ _ us hl => match us, hl with | [_, _, _], _ => rfl
  have p_need_rule : FunP K mg "need_rule" st_need_rule ["value"] := FunP.mk' X GN h_a25 h_l25 h_c25 h_k25 fun _ _ _ _ _ _ us hl => match us, hl with | [_], _ => rfl
  have p_is_rule : FunP K mg "is_rule" st_is_rule ["value"] := FunP.mk' X GN h_a26 h_l26 h_c26 h_k26 fun _ _ _ _ _ _ us hl => match us, hl with | [_], _ => rfl
  have p_rows_by : FunP K mg "rows_by" st_rows_by ["rule", "claims", "house"] := FunP.mk' X GN h_a27 h_l27 h_c27 h_k27 fun _ _ _ _ _ _ us hl => match us, hl with | [_, _, _], _ => rfl
  have p__law_cup : FunP K mg "_law_cup" st__law_cup ["script"] := FunP.mk' X GN h_a28 h_l28 h_c28 h_k28 fun _ _ _ _ _ _ us hl => match us, hl with | [_], _ => rfl
  have p__law_roll : FunP K mg "_law_roll" st__law_roll ["cup", "many"] := FunP.mk' X GN h_a29 h_l29 h_c29 h_k29 fun _ _ _ _ _ _ us hl => match us, hl with | [_, _], _ => rfl
  have p__law_some : FunP K mg "_law_some" st__law_some ["cup", "things"] := FunP.mk' X GN h_a30 h_l30 h_c30 h_k30 fun _ _ _ _ _ _ us hl => match us, hl with | [_, _], _ => rfl
  have p__law_post : FunP K mg "_law_post" st__law_post ["cup"] := FunP.mk' X GN h_a31 h_l31 h_c31 h_k31 fun _ _ _ _ _ _ us hl => match us, hl with | [_], _ => rfl
  have p__law_claims : FunP K mg "_law_claims" st__law_claims ["cup", "many"] := FunP.mk' X GN h_a32 h_l32 h_c32 h_k32 fun _ _ _ _ _ _ us hl => match us, hl with | [_, _], _ => rfl
  have p__law_plain_square : FunP K mg "_law_plain_square" st__law_plain_square ["post", "number"] := FunP.mk' X GN h_a33 h_l33 h_c33 h_k33 fun _ _ _ _ _ _ us hl => match us, hl with | [_, _], _ => rfl
  have p__law_ahead : FunP K mg "_law_ahead" st__law_ahead ["post", "claim", "seats", "other", "more"] := FunP.mk' X GN h_a34 h_l34 h_c34 h_k34 fun _ _ _ _ _ _ us hl => match us, hl with | [_, _, _, _, _], _ => rfl
  have p__law_grown : FunP K mg "_law_grown" st__law_grown ["claims", "post", "house", "low", "high"] := FunP.mk' X GN h_a35 h_l35 h_c35 h_k35 fun _ _ _ _ _ _ us hl => match us, hl with | [_, _, _, _, _], _ => rfl
  have p__law_rested : FunP K mg "_law_rested" st__law_rested ["claims", "house"] := FunP.mk' X GN h_a36 h_l36 h_c36 h_k36 fun _ _ _ _ _ _ us hl => match us, hl with | [_, _], _ => rfl
  have p__law_rows : FunP K mg "_law_rows" st__law_rows ["rule", "claims", "house"] := FunP.mk' X GN h_a37 h_l37 h_c37 h_k37 fun _ _ _ _ _ _ us hl => match us, hl with | [_, _, _], _ => rfl
  have p__law_rule : FunP K mg "_law_rule" st__law_rule ["cup"] := FunP.mk' X GN h_a38 h_l38 h_c38 h_k38 fun _ _ _ _ _ _ us hl => match us, hl with | [_], _ => rfl
  have p__law_some_claims : FunP K mg "_law_some_claims" st__law_some_claims ["cup", "most"] := FunP.mk' X GN h_a39 h_l39 h_c39 h_k39 fun _ _ _ _ _ _ us hl => match us, hl with | [_, _], _ => rfl
  have p__law_odd_rules : FunP K mg "_law_odd_rules" st__law_odd_rules ["post"] := FunP.mk' X GN h_a40 h_l40 h_c40 h_k40 fun _ _ _ _ _ _ us hl => match us, hl with | [_], _ => rfl
  have p_law : FunP K mg "law" st_law ["script"] := FunP.mk' X GN h_a41 h_l41 h_c41 h_k41 fun _ _ _ _ _ _ us hl => match us, hl with | [_], _ => rfl
  have z_abs : mg "abs" = none := PySem.W.mg_none_of X GN h_z0
  have z_all : mg "all" = none := PySem.W.mg_none_of X GN h_z1
  have z_bool : mg "bool" = none := PySem.W.mg_none_of X GN h_z2
  have z_enumerate : mg "enumerate" = none := PySem.W.mg_none_of X GN h_z3
  have z_int : mg "int" = none := PySem.W.mg_none_of X GN h_z4
  have z_isinstance : mg "isinstance" = none := PySem.W.mg_none_of X GN h_z5
  have z_len : mg "len" = none := PySem.W.mg_none_of X GN h_z6
  have z_list : mg "list" = none := PySem.W.mg_none_of X GN h_z7
  have z_max : mg "max" = none := PySem.W.mg_none_of X GN h_z8
  have z_range : mg "range" = none := PySem.W.mg_none_of X GN h_z9
  have z_repr : mg "repr" = none := PySem.W.mg_none_of X GN h_z10
  have z_set : mg "set" = none := PySem.W.mg_none_of X GN h_z11
  have z_sorted : mg "sorted" = none := PySem.W.mg_none_of X GN h_z12
  have z_str : mg "str" = none := PySem.W.mg_none_of X GN h_z13
  have z_sum : mg "sum" = none := PySem.W.mg_none_of X GN h_z14
  have z_tuple : mg "tuple" = none := PySem.W.mg_none_of X GN h_z15
  have g_CLAIM : GV K mg "CLAIM" g_CLAIM := GV_int X GN h_g0
  have g_CLAIMS : GV K mg "CLAIMS" g_CLAIMS := GV_int X GN h_g1
  have g_ONE : GV K mg "ONE" g_ONE := by
    rw [Bool.and_eq_true] at h_gv2
    exact GV_tup X GN h_g2 h_gl2 h_gv2.1 (Nat.le_of_ble_eq_true h_gv2.2)
  have g_SEATS : GV K mg "SEATS" g_SEATS := GV_int X GN h_g3
  have g_ZERO : GV K mg "ZERO" g_ZERO := by
    rw [Bool.and_eq_true] at h_gv4
    exact GV_tup X GN h_g4 h_gl4 h_gv4.1 (Nat.le_of_ble_eq_true h_gv4.2)
  have e_InvalidClaims : ErrC K mg "InvalidClaims" := ErrC_mk X GN PySem.F.excBase_ValueError h_e0 h_eq0 h_ek0 h_es0 h_et0
  have e_InvalidNumber : ErrC K mg "InvalidNumber" := ErrC_mk X GN PySem.F.excBase_ValueError h_e1 h_eq1 h_ek1 h_es1 h_et1
  have e_InvalidRule : ErrC K mg "InvalidRule" := ErrC_mk X GN PySem.F.excBase_ValueError h_e2 h_eq2 h_ek2 h_es2 h_et2
  have e_NoQuotas : ErrC K mg "NoQuotas" := ErrC_mk X GN PySem.F.excBase_ValueError h_e3 h_eq3 h_ek3 h_es3 h_et3
  have Z : Env K mg := ⟨z_abs, z_all, z_bool, z_enumerate, z_int, z_isinstance, z_len, z_list, z_max, z_range, z_repr, z_set, z_sorted, z_str, z_sum, z_tuple, g_CLAIM, g_CLAIMS, g_ONE, g_SEATS, g_ZERO, e_InvalidClaims, e_InvalidNumber, e_InvalidRule, e_NoQuotas⟩
  have D : Funs K mg := ⟨p_is_whole, p_is_integer, p_is_tuple_of, p_common_divisor, p_fits_ratio, p_made, p_compared, p_fits_post, p_square_of, p_need_number, p_fits_claims, p_sign_between, p_greatest_next, p_least_given, p_with_more, p_one_in, p_rows_in, p_need_claims, p_need_house, p_quotas_in, p_whole_of, p_bounds_by, p_rests_in, p_fits_rule, p_rows_of, p_need_rule, p_is_rule, p_rows_by, p__law_cup, p__law_roll, p__law_some, p__law_post, p__law_claims, p__law_plain_square, p__law_ahead, p__law_grown, p__law_rested, p__law_rows, p__law_rule, p__law_some_claims, p__law_odd_rules, p_law⟩
  obtain ⟨f, fd, FL, hm, hk, hb⟩ := p_law
  cases hm.symm.trans hfa
  exact ⟨fd, fun s u => hb s [u] rfl, fun base hb1 hb2 => ok_law FL Z (all_ok Z D 19)⟩
end G
open PySem PySem.W PyProof.Rows
set_option maxHeartbeats 0 in
theorem PySem.Challenge.cw_seattable_k42_rules_and_their_rows_holds : PySem.Challenge.rw_seattable_k42_rules_and_their_rows.Holds := by
  w_on; o_law; k_head; (case hw => w_witness2)
  k_fill
  refine MM.walk_M (l := PySem.Challenge.rw_seattable_k42_rules_and_their_rows) (n := 63) (k := 20) (i := 95) (x := "script") (L := none) (T := G.T) rfl (by decide) rfl ⟨rfl, by decide, by decide⟩ (fun w h Y => PySem.W.kIn_of Y) ?F G.law_true
  case F =>
    intro w mg fa h KX GN hmg
    refine' G.all_mk KX GN hmg ?mm_a0 ?mm_l0 ?mm_c0 ?mm_k0 ?mm_a1 ?mm_l1 ?mm_c1 ?mm_k1 ?mm_a2 ?mm_l2 ?mm_c2 ?mm_k2 ?mm_a3 ?mm_l3 ?mm_c3 ?mm_k3 ?mm_a4 ?mm_l4 ?mm_c4 ?mm_k4 ?mm_a5 ?mm_l5 ?mm_c5 ?mm_k5 ?mm_a6 ?mm_l6 ?mm_c6 ?mm_k6 ?mm_a7 ?mm_l7 ?mm_c7 ?mm_k7 ?mm_a8 ?mm_l8 ?mm_c8 ?mm_k8 ?mm_a9 ?mm_l9 ?mm_c9 ?mm_k9 ?mm_a10 ?mm_l10 ?mm_c10 ?mm_k10 ?mm_a11 ?mm_l11 ?mm_c11 ?mm_k11 ?mm_a12 ?mm_l12 ?mm_c12 ?mm_k12 ?mm_a13 ?mm_l13 ?mm_c13 ?mm_k13 ?mm_a14 ?mm_l14 ?mm_c14 ?mm_k14 ?mm_a15 ?mm_l15 ?mm_c15 ?mm_k15 ?mm_a16 ?mm_l16 ?mm_c16 ?mm_k16 ?mm_a17 ?mm_l17 ?mm_c17 ?mm_k17 ?mm_a18 ?mm_l18 ?mm_c18 ?mm_k18 ?mm_a19 ?mm_l19 ?mm_c19 ?mm_k19 ?mm_a20 ?mm_l20 ?mm_c20 ?mm_k20 ?mm_a21 ?mm_l21 ?mm_c21 ?mm_k21 ?mm_a22 ?mm_l22 ?mm_c22 ?mm_k22 ?mm_a23 ?mm_l23 ?mm_c23 ?mm_k23 ?mm_a24 ?mm_l24 ?mm_c24 ?mm_k24 ?mm_a25 ?mm_l25 ?mm_c25 ?mm_k25 ?mm_a26 ?mm_l26 ?mm_c26 ?mm_k26 ?mm_a27 ?mm_l27 ?mm_c27 ?mm_k27 ?mm_a28 ?mm_l28 ?mm_c28 ?mm_k28 ?mm_a29 ?mm_l29 ?mm_c29 ?mm_k29 ?mm_a30 ?mm_l30 ?mm_c30 ?mm_k30 ?mm_a31 ?mm_l31 ?mm_c31 ?mm_k31 ?mm_a32 ?mm_l32 ?mm_c32 ?mm_k32 ?mm_a33 ?mm_l33 ?mm_c33 ?mm_k33 ?mm_a34 ?mm_l34 ?mm_c34 ?mm_k34 ?mm_a35 ?mm_l35 ?mm_c35 ?mm_k35 ?mm_a36 ?mm_l36 ?mm_c36 ?mm_k36 ?mm_a37 ?mm_l37 ?mm_c37 ?mm_k37 ?mm_a38 ?mm_l38 ?mm_c38 ?mm_k38 ?mm_a39 ?mm_l39 ?mm_c39 ?mm_k39 ?mm_a40 ?mm_l40 ?mm_c40 ?mm_k40 ?mm_a41 ?mm_l41 ?mm_c41 ?mm_k41 ?mm_z0 ?mm_z1 ?mm_z2 ?mm_z3 ?mm_z4 ?mm_z5 ?mm_z6 ?mm_z7 ?mm_z8 ?mm_z9 ?mm_z10 ?mm_z11 ?mm_z12 ?mm_z13 ?mm_z14 ?mm_z15 ?mm_g0 ?mm_g1 ?mm_g2 ?mm_gl2 ?mm_gv2 ?mm_g3 ?mm_g4 ?mm_gl4 ?mm_gv4 ?mm_e0 ?mm_eq0 ?mm_ek0 ?mm_es0 ?mm_et0 ?mm_e1 ?mm_eq1 ?mm_ek1 ?mm_es1 ?mm_et1 ?mm_e2 ?mm_eq2 ?mm_ek2 ?mm_es2 ?mm_et2 ?mm_e3 ?mm_eq3 ?mm_ek3 ?mm_es3 ?mm_et3
    (case mm_a0 => k_is)
    (case mm_l0 => k_is)
    (case mm_c0 => k_is)
    (case mm_k0 => k_is)
    (case mm_a1 => k_is)
    (case mm_l1 => k_is)
    (case mm_c1 => k_is)
    (case mm_k1 => k_is)
    (case mm_a2 => k_is)
    (case mm_l2 => k_is)
    (case mm_c2 => k_is)
    (case mm_k2 => k_is)
    (case mm_a3 => k_is)
    (case mm_l3 => k_is)
    (case mm_c3 => k_is)
    (case mm_k3 => k_is)
    (case mm_a4 => k_is)
    (case mm_l4 => k_is)
    (case mm_c4 => k_is)
    (case mm_k4 => k_is)
    (case mm_a5 => k_is)
    (case mm_l5 => k_is)
    (case mm_c5 => k_is)
    (case mm_k5 => k_is)
    (case mm_a6 => k_is)
    (case mm_l6 => k_is)
    (case mm_c6 => k_is)
    (case mm_k6 => k_is)
    (case mm_a7 => k_is)
    (case mm_l7 => k_is)
    (case mm_c7 => k_is)
    (case mm_k7 => k_is)
    (case mm_a8 => k_is)
    (case mm_l8 => k_is)
    (case mm_c8 => k_is)
    (case mm_k8 => k_is)
    (case mm_a9 => k_is)
    (case mm_l9 => k_is)
    (case mm_c9 => k_is)
    (case mm_k9 => k_is)
    (case mm_a10 => k_is)
    (case mm_l10 => k_is)
    (case mm_c10 => k_is)
    (case mm_k10 => k_is)
    (case mm_a11 => k_is)
    (case mm_l11 => k_is)
    (case mm_c11 => k_is)
    (case mm_k11 => k_is)
    (case mm_a12 => k_is)
    (case mm_l12 => k_is)
    (case mm_c12 => k_is)
    (case mm_k12 => k_is)
    (case mm_a13 => k_is)
    (case mm_l13 => k_is)
    (case mm_c13 => k_is)
    (case mm_k13 => k_is)
    (case mm_a14 => k_is)
    (case mm_l14 => k_is)
    (case mm_c14 => k_is)
    (case mm_k14 => k_is)
    (case mm_a15 => k_is)
    (case mm_l15 => k_is)
    (case mm_c15 => k_is)
    (case mm_k15 => k_is)
    (case mm_a16 => k_is)
    (case mm_l16 => k_is)
    (case mm_c16 => k_is)
    (case mm_k16 => k_is)
    (case mm_a17 => k_is)
    (case mm_l17 => k_is)
    (case mm_c17 => k_is)
    (case mm_k17 => k_is)
    (case mm_a18 => k_is)
    (case mm_l18 => k_is)
    (case mm_c18 => k_is)
    (case mm_k18 => k_is)
    (case mm_a19 => k_is)
    (case mm_l19 => k_is)
    (case mm_c19 => k_is)
    (case mm_k19 => k_is)
    (case mm_a20 => k_is)
    (case mm_l20 => k_is)
    (case mm_c20 => k_is)
    (case mm_k20 => k_is)
    (case mm_a21 => k_is)
    (case mm_l21 => k_is)
    (case mm_c21 => k_is)
    (case mm_k21 => k_is)
    (case mm_a22 => k_is)
    (case mm_l22 => k_is)
    (case mm_c22 => k_is)
    (case mm_k22 => k_is)
    (case mm_a23 => k_is)
    (case mm_l23 => k_is)
    (case mm_c23 => k_is)
    (case mm_k23 => k_is)
    (case mm_a24 => k_is)
    (case mm_l24 => k_is)
    (case mm_c24 => k_is)
    (case mm_k24 => k_is)
    (case mm_a25 => k_is)
    (case mm_l25 => k_is)
    (case mm_c25 => k_is)
    (case mm_k25 => k_is)
    (case mm_a26 => k_is)
    (case mm_l26 => k_is)
    (case mm_c26 => k_is)
    (case mm_k26 => k_is)
    (case mm_a27 => k_is)
    (case mm_l27 => k_is)
    (case mm_c27 => k_is)
    (case mm_k27 => k_is)
    (case mm_a28 => k_is)
    (case mm_l28 => k_is)
    (case mm_c28 => k_is)
    (case mm_k28 => k_is)
    (case mm_a29 => k_is)
    (case mm_l29 => k_is)
    (case mm_c29 => k_is)
    (case mm_k29 => k_is)
    (case mm_a30 => k_is)
    (case mm_l30 => k_is)
    (case mm_c30 => k_is)
    (case mm_k30 => k_is)
    (case mm_a31 => k_is)
    (case mm_l31 => k_is)
    (case mm_c31 => k_is)
    (case mm_k31 => k_is)
    (case mm_a32 => k_is)
    (case mm_l32 => k_is)
    (case mm_c32 => k_is)
    (case mm_k32 => k_is)
    (case mm_a33 => k_is)
    (case mm_l33 => k_is)
    (case mm_c33 => k_is)
    (case mm_k33 => k_is)
    (case mm_a34 => k_is)
    (case mm_l34 => k_is)
    (case mm_c34 => k_is)
    (case mm_k34 => k_is)
    (case mm_a35 => k_is)
    (case mm_l35 => k_is)
    (case mm_c35 => k_is)
    (case mm_k35 => k_is)
    (case mm_a36 => k_is)
    (case mm_l36 => k_is)
    (case mm_c36 => k_is)
    (case mm_k36 => k_is)
    (case mm_a37 => k_is)
    (case mm_l37 => k_is)
    (case mm_c37 => k_is)
    (case mm_k37 => k_is)
    (case mm_a38 => k_is)
    (case mm_l38 => k_is)
    (case mm_c38 => k_is)
    (case mm_k38 => k_is)
    (case mm_a39 => k_is)
    (case mm_l39 => k_is)
    (case mm_c39 => k_is)
    (case mm_k39 => k_is)
    (case mm_a40 => k_is)
    (case mm_l40 => k_is)
    (case mm_c40 => k_is)
    (case mm_k40 => k_is)
    (case mm_a41 => k_is)
    (case mm_l41 => k_is)
    (case mm_c41 => k_is)
    (case mm_k41 => k_is)
    (case mm_z0 => k_is)
    (case mm_z1 => k_is)
    (case mm_z2 => k_is)
    (case mm_z3 => k_is)
    (case mm_z4 => k_is)
    (case mm_z5 => k_is)
    (case mm_z6 => k_is)
    (case mm_z7 => k_is)
    (case mm_z8 => k_is)
    (case mm_z9 => k_is)
    (case mm_z10 => k_is)
    (case mm_z11 => k_is)
    (case mm_z12 => k_is)
    (case mm_z13 => k_is)
    (case mm_z14 => k_is)
    (case mm_z15 => k_is)
    (case mm_g0 => k_is)
    (case mm_g1 => k_is)
    (case mm_g2 => k_is)
    (case mm_gl2 => k_is)
    (case mm_gv2 => decide +kernel)
    (case mm_g3 => k_is)
    (case mm_g4 => k_is)
    (case mm_gl4 => k_is)
    (case mm_gv4 => decide +kernel)
    (case mm_e0 => k_is)
    (case mm_eq0 => k_exc)
    (case mm_ek0 => k_is)
    (case mm_es0 => k_is)
    (case mm_et0 => k_is)
    (case mm_e1 => k_is)
    (case mm_eq1 => k_exc)
    (case mm_ek1 => k_is)
    (case mm_es1 => k_is)
    (case mm_et1 => k_is)
    (case mm_e2 => k_is)
    (case mm_eq2 => k_exc)
    (case mm_ek2 => k_is)
    (case mm_es2 => k_is)
    (case mm_et2 => k_is)
    (case mm_e3 => k_is)
    (case mm_eq3 => k_exc)
    (case mm_ek3 => k_is)
    (case mm_es3 => k_is)
    (case mm_et3 => k_is)
