import PyProof.Rows.All
import Wide.All
import OpenK.AllK
import Wide.FinOn
import HandS.ForMost
import HandS.Wide
import HandS.Gcd
import HandS.Style
import HandS.Flow
import HandS.Zip
import HandS.SortInts
import HandS.TupSets
import HandS.TupAny
import HandS.TupMul
import HandS.IsInst
import HandS.RaiseMore
import HandS.Deep
import HandS.Head0
import HandS.Head1
import HandS.Head2
import HandS.HeadEnd
import HandS.HeadHook1
import HandS.HeadHook2
import HandS.TryOnly
import HandS.Head3
import PyProof.Rows.StrBin
import PySem.Challenge.RW_exactpaint_k47_whole_paints_shown
set_option Elab.async false
set_option linter.all false
set_option maxRecDepth 100000
set_option maxHeartbeats 8000000
set_option autoImplicit false
/-! E1: a small pure language, its values, its evaluator. -/
namespace Xp
open PySem

/-! ### values -/
inductive W where
  | d (x : PyData)
  | cell (n : Nat)
  | fn (i : Nat)
  | known (ns : List Int)
inductive R where
  | w (x : W)
  | own (xs : List PyData)
  | bor (xs : List PyData)
/-- a shared list -/
abbrev Cell := List PyData
structure S where
  sl : List (Option R)
  st : List Cell

abbrev R.i (a : Int) : R := .w (.d (.int a))
abbrev R.b (a : Bool) : R := .w (.d (.bool a))
abbrev R.s (a : Str) : R := .w (.d (.str a))
abbrev R.t (a : List PyData) : R := .w (.d (.tuple a))
abbrev R.n : R := .w (.d .none)

/-- what a result is, as data -/
def R.dat (st : List Cell) : R → Option PyData
  | .w (.d x) => some x
  | .w (.cell n) => (st[n]?).map .list
  | .w (.fn _) => none
  | .w (.known _) => none
  | .own xs => some (.list xs)
  | .bor xs => some (.list xs)
def R.fz : R → Option W
  | .w x => some x
  | .own xs => some (.d (.list xs))
  | .bor _ => none
def asD : List W → Option (List PyData)
  | [] => some []
  | .d x :: r => (asD r).map (x :: ·)
  | _ :: _ => none

/-! ### the language -/
inductive Bo where | add | sub | mul | fdiv | mod | pow
inductive Co where | eq | ne | lt | le | gt | ge | isn | notn | isb | notb | isin | notin
inductive U1 where | neg | len | abs | maxl | minl | sum | any | all | sorted | setsorted | list | tuple | int | str | repr | isT (T : String)
inductive U2 where | max | min | gcd | join | count
inductive Tg where | v (i : Nat) | nil | cons (t : Tg) (r : Tg)
mutual
inductive Ex where
  | int (i : Int) | bl (b : Bool) | non | str (s : Str)
  | var (i : Nat) | vb (i : Nat) | vm (i : Nat)
  | glb (g : Nat) | fnv (f : Nat) | scr (a : Ex)
  | tup (es : Exs) | lst (es : Exs)
  | bin (o : Bo) (a b : Ex)
  | cmp (o : Co) (a b : Ex) | cmp2 (o o2 : Co) (a b c : Ex)
  | and (a b : Ex) | or (a b : Ex) | not (a : Ex)
  | ite (c a b : Ex)
  | cal (f : Nat) (es : Exs) | cav (i : Nat) (es : Exs)
  | u1 (f : U1) (a : Ex) | u2 (f : U2) (a b : Ex)
  | ix (a b : Ex) | sl (a : Ex) (lo hi : Ex) | nopart
  | lc (own : List Nat) (tg : Tg) (it : It) (c : Ex) (e : Ex)
  | lc2 (own own1 : List Nat) (tg : Tg) (it : It) (tg1 : Tg) (it1 : It) (e : Ex)
inductive Exs where | nil | cons (e : Ex) (es : Exs)
inductive It where | seq (e : Ex) | rng1 (a : Ex) | rng2 (a b : Ex) | rng3 (a b c : Ex) | enum (a : Ex) | zip (a b : Ex)
end
mutual
inductive St where
  | asg (tg : Tg) (e : Ex)
  | asgC (i : Nat) (e : Ex)
  | par (is : List Nat) (es : Exs)
  | setv (i : Nat) (k e : Ex)
  | app (i : Nat) (e : Ex)
  | ins (i : Nat) (k e : Ex)
  | exp (e : Ex)
  | ret (e : Ex) | retN
  | ite (c : Ex) (a b : Sts)
  | for_ (tg : Tg) (it : It) (b : Sts)
  | whl (c : Ex) (b : Sts)
  | brk | cnt | pass | never
inductive Sts where | nil | cons (s : St) (r : Sts)
end
def Exs.len : Exs → Nat
  | .nil => 0
  | .cons _ r => r.len + 1

/-! ### operations on data -/
def mulOk (a b : Int) : Bool := decide (a.natAbs < 2 ^ 64) || decide (b.natAbs < 2 ^ 64) || decide (a.natAbs.log2 + b.natAbs.log2 < 1000000)
def divOk (b : Int) : Bool := decide (b ≠ 0) && decide (b.natAbs.log2 < 9000)
def bin2 : Bo → PyData → PyData → Option R
  | .add, .int a, .int b => some (.i (a + b))
  | .add, .str a, .str b => if a.length + b.length ≤ 16777216 then some (.s (a ++ b)) else none
  | .add, .tuple a, .tuple b => if a.length + b.length ≤ 16777216 then some (.t (a ++ b)) else none
  | .add, .list a, .list b => if a.length + b.length ≤ 16777216 then some (.own (a ++ b)) else none
  | .sub, .int a, .int b => some (.i (a - b))
  | .mul, .int a, .int b => if mulOk a b = true then some (.i (a * b)) else none
  | .mul, .tuple a, .int k => if 2 ≤ k ∧ k ≤ 1000 ∧ a ≠ [] ∧ a.length ≤ 1000 then some (.t (List.replicate k.toNat a).flatten) else none
  | .mul, .list a, .int k => if 0 ≤ k ∧ k ≤ 1000 ∧ a.length ≤ 1000 then some (.own (List.replicate k.toNat a).flatten) else none
  | .fdiv, .int a, .int b => if divOk b = true then some (.i (a.fdiv b)) else none
  | .mod, .int a, .int b => if b ≠ 0 then some (.i (a.fmod b)) else none
  | .pow, .int a, .int b => if 0 ≤ b ∧ b ≤ 1000 ∧ a.natAbs < 2 ^ 64 then some (.i (a ^ b.toNat)) else none
  | _, _, _ => none
def flatD : PyData → Bool
  | .none | .bool _ | .int _ | .str _ => true
  | _ => false
def okEq (p : PyData) : Bool := SeqAt.shaped p
def inD (p : PyData) (xs : List PyData) : Option Bool := if okEq p && okEq (.list xs) then some (xs.any fun y => PyData.eqv y p) else none
def seqOf : PyData → Option (List PyData)
  | .list xs => some xs
  | .tuple xs => some xs
  | _ => none
def nonB : PyData → Bool
  | .none => true
  | _ => false
def cmp2 : Co → PyData → PyData → Option Bool
  | .eq, .str a, .str b => some (decide (a = b))
  | .ne, .str a, .str b => some (!decide (a = b))
  | .eq, p, q => if okEq p && okEq q then some (PyData.eqv p q) else none
  | .ne, p, q => if okEq p && okEq q then some (!PyData.eqv p q) else none
  | .lt, .int a, .int b => some (decide (a < b))
  | .le, .int a, .int b => some (decide (a ≤ b))
  | .gt, .int a, .int b => some (decide (b < a))
  | .ge, .int a, .int b => some (decide (b ≤ a))
  | .isn, p, .none => some (nonB p)
  | .notn, p, .none => some (!nonB p)
  | .isb, .bool a, .bool b => some (decide (a = b))
  | .notb, .bool a, .bool b => some (!decide (a = b))
  | .isin, p, q => (seqOf q).bind fun xs => inD p xs
  | .notin, p, q => (seqOf q).bind fun xs => (inD p xs).map (!·)
  | _, _, _ => none
def intsOf : List PyData → Option (List Int)
  | [] => some []
  | .int a :: r => (intsOf r).map (a :: ·)
  | _ :: _ => none
def blsOf : List PyData → Option (List Bool)
  | [] => some []
  | .bool a :: r => (blsOf r).map (a :: ·)
  | _ :: _ => none
def strsOf : List PyData → Option (List Str)
  | [] => some []
  | .str a :: r => (strsOf r).map (a :: ·)
  | _ :: _ => none
def greatest : List Int → Option Int
  | [] => none
  | [a] => some a
  | a :: r => (greatest r).map fun b => if b > a then b else a
def least : List Int → Option Int
  | [] => none
  | [a] => some a
  | a :: r => (least r).map fun b => if b < a then b else a
def insI (a : Int) : List Int → List Int
  | [] => [a]
  | b :: r => if a ≤ b then a :: b :: r else b :: insI a r
def sortI : List Int → List Int
  | [] => []
  | a :: r => insI a (sortI r)
def tyOf : PyData → Option String
  | .none => some "NoneType"
  | .bool _ => some "bool"
  | .int _ => some "int"
  | .str _ => some "str"
  | .list _ => some "list"
  | .tuple _ => some "tuple"
  | .dict _ => none
def isTy (t T : String) : Option Bool := L2.kitB t T
def showOk (p : PyData) : Bool := p.showable && !p.hasDict && decide (p.depth ≤ 64) && decide (p.shown.length ≤ 16777216)
def un1 : U1 → PyData → Option R
  | .neg, .int a => some (.i (-a))
  | .len, .list xs => some (.i xs.length)
  | .len, .tuple xs => some (.i xs.length)
  | .abs, .int a => some (.i (if a < 0 then -a else a))
  | .maxl, .list xs => ((intsOf xs).bind greatest).map fun a => .i a
  | .minl, .list xs => ((intsOf xs).bind least).map fun a => .i a
  | .sum, .list xs => (intsOf xs).map fun a => .i a.sum
  | .any, .list xs => (blsOf xs).map fun a => .b (a.any id)
  | .all, .list xs => (blsOf xs).map fun a => .b (a.all id)
  | .list, .list xs => some (.own xs)
  | .list, .tuple xs => some (.own xs)
  | .tuple, .list xs => some (.t xs)
  | .tuple, .tuple xs => some (.t xs)
  | .int, .int a => some (.i a)
  | .int, .bool a => some (.i (if a then 1 else 0))
  | .str, .int a => if a.natAbs.log2 < 1920 then some (.s (toString a)) else none
  | .sorted, .list xs => (intsOf xs).map fun a => .own ((sortI a).map .int)
  | .repr, p => if showOk p = true then some (.s p.shown) else none
  | .isT T, p => (tyOf p).bind fun t => (isTy t T).map fun b => .b b
  | _, _ => none
def un2 : U2 → PyData → PyData → Option R
  | .max, .int a, .int b => some (.i (if b > a then b else a))
  | .min, .int a, .int b => some (.i (if b < a then b else a))
  | .gcd, .int a, .int b => some (.i (Nat.gcd a.natAbs b.natAbs : Nat))
  | .join, .str a, .list xs => (strsOf xs).bind fun ys => if (ys.map (·.length)).sum + ys.length * a.length ≤ 16777216 then some (.s (Txt.join a ys)) else none
  | _, _, _ => none
def atD (xs : List PyData) (i : Int) : Option PyData := L2.atI xs i
def ix2 : PyData → PyData → Option R
  | .list xs, .int i => (atD xs i).map fun x => .w (.d x)
  | .tuple xs, .int i => (atD xs i).map fun x => .w (.d x)
  | _, _ => none
def cutD (xs : List PyData) (lo hi : Option Int) : List PyData := (xs.drop (HT.sIx xs.length 0 lo)).take (HT.sIx xs.length xs.length hi - HT.sIx xs.length 0 lo)
def sl3 (lo hi : Option Int) : PyData → Option R
  | .list xs => some (.own (cutD xs lo hi))
  | .tuple xs => some (.t (cutD xs lo hi))
  | _ => none
def rngD (lo : Int) : Nat → List PyData
  | 0 => []
  | n + 1 => .int lo :: rngD (lo + 1) n
def enumD (i : Int) : List PyData → List PyData
  | [] => []
  | x :: r => .tuple [.int i, x] :: enumD (i + 1) r
def zipD : List PyData → List PyData → List PyData
  | x :: r, y :: q => .tuple [x, y] :: zipD r q
  | _, _ => []

/-! ### running -/
def bd {α β : Type} (x : Option (α × S)) (f : α → S → Option (β × S)) : Option (β × S) := match x with
  | some (a, s) => f a s
  | none => none
def on {β : Type} (x : Option β) (s : S) : Option (β × S) := match x with
  | some b => some (b, s)
  | none => none
def wipe (l : List (Option R)) : List Nat → List (Option R)
  | [] => l
  | v :: vs => (wipe l vs).set v none
/-- the slots at vs as they stood ahead -/
def back (l old : List (Option R)) : List Nat → List (Option R)
  | [] => l
  | v :: vs => (back l old vs).set v (old.getD v none)
/-- no list of its own stands in these slots -/
def noOwn (l : List (Option R)) (vs : List Nat) : Bool := vs.all fun i => match l[i]? with
  | some (some (.own _)) => false
  | _ => true
def bindT : Tg → PyData → List (Option R) → Option (List (Option R))
  | .v i, x, l => if i < l.length then some (l.set i (some (.w (.d x)))) else none
  | .nil, .tuple [], l => some l
  | .cons t r, .tuple (x :: xs), l => (bindT t x l).bind fun l2 => bindT r (.tuple xs) l2
  | _, _, _ => none
def asB (st : List Cell) (r : R) : Option Bool := match r.dat st with
  | some (.bool b) => some b
  | _ => none
def asI (st : List Cell) (r : R) : Option Int := match r.dat st with
  | some (.int b) => some b
  | _ => none
def lcL (f : PyData → S → Option (Option PyData × S)) : List PyData → S → Option (List PyData × S)
  | [], s => some ([], s)
  | x :: xs, s => bd (f x s) fun o s1 => bd (lcL f xs s1) fun r s2 => some (o.toList ++ r, s2)
def fits (xs : List PyData) : Option (List PyData) := if xs.length ≤ 16777215 then some xs else none

section
variable (cal : Nat → List W → List Cell → Option (R × List Cell)) (G : List PyData)
mutual
def ev : Ex → S → Option (R × S)
  | .int i, s => some (.i i, s)
  | .bl b, s => some (.b b, s)
  | .non, s => some (.n, s)
  | .str x, s => some (.s x, s)
  | .var i, s => (match s.sl[i]? with
    | some (some (.own xs)) => some (.w (.d (.list xs)), ⟨s.sl.set i (some (.w (.d (.list xs)))), s.st⟩)
    | some (some (.w x)) => some (.w x, s)
    | _ => none)
  | .vb i, s => (match s.sl[i]? with
    | some (some (.own xs)) => some (.bor xs, s)
    | some (some (.w x)) => some (.w x, s)
    | _ => none)
  | .vm i, s => (match s.sl[i]? with
    | some (some (.own xs)) => some (.own xs, ⟨s.sl.set i none, s.st⟩)
    | some (some (.w x)) => some (.w x, s)
    | _ => none)
  | .glb g, s => on ((G[g]?).map fun x => .w (.d x)) s
  | .fnv f, s => some (.w (.fn f), s)
  | .scr a, s => bd (ev a s) fun x s1 => on (match x with | .w (.known ns) => some (.own (ns.map .int)) | _ => none) s1
  | .tup es, s => bd (evs es s) fun ws s1 => on ((asD ws).map fun ds => .t ds) s1
  | .lst es, s => bd (evs es s) fun ws s1 => on ((asD ws).map fun ds => .own ds) s1
  | .bin o a b, s => bd (ev a s) fun x s1 => bd (ev b s1) fun y s2 => on ((x.dat s2.st).bind fun p => (y.dat s2.st).bind fun q => bin2 o p q) s2
  | .cmp o a b, s => bd (ev a s) fun x s1 => bd (ev b s1) fun y s2 => on ((x.dat s2.st).bind fun p => (y.dat s2.st).bind fun q => (cmp2 o p q).map fun c => .b c) s2
  | .cmp2 o o2 a b c, s => bd (ev a s) fun x s1 => bd (ev b s1) fun y s2 => bd (on ((x.dat s2.st).bind fun p => (y.dat s2.st).bind fun q => cmp2 o p q) s2) fun k s3 =>
      if k = true then bd (ev c s3) fun z s4 => on ((y.dat s4.st).bind fun p => (z.dat s4.st).bind fun q => (cmp2 o2 p q).map fun c => .b c) s4 else some (.b false, s3)
  | .and a b, s => bd (ev a s) fun x s1 => bd (on (asB s1.st x) s1) fun k s2 => if k = true then ev b s2 else some (.b false, s2)
  | .or a b, s => bd (ev a s) fun x s1 => bd (on (asB s1.st x) s1) fun k s2 => if k = true then some (.b true, s2) else ev b s2
  | .not a, s => bd (ev a s) fun x s1 => bd (on (asB s1.st x) s1) fun k s2 => some (.b (!k), s2)
  | .ite c a b, s => bd (ev c s) fun x s1 => bd (on (asB s1.st x) s1) fun k s2 => if k = true then ev a s2 else ev b s2
  | .cal f es, s => bd (evs es s) fun ws s1 => (match cal f ws s1.st with
    | some (r, st) => some (r, ⟨s1.sl, st⟩)
    | none => none)
  | .cav i es, s => (match s.sl[i]? with
    | some (some (.w (.fn f))) => bd (evs es s) fun ws s1 => (match cal f ws s1.st with
      | some (r, st) => some (r, ⟨s1.sl, st⟩)
      | none => none)
    | _ => none)
  | .u1 f a, s => bd (ev a s) fun x s1 => on ((x.dat s1.st).bind fun p => un1 f p) s1
  | .u2 f a b, s => bd (ev a s) fun x s1 => bd (ev b s1) fun y s2 => on ((x.dat s2.st).bind fun p => (y.dat s2.st).bind fun q => un2 f p q) s2
  | .ix a b, s => bd (ev a s) fun x s1 => bd (ev b s1) fun y s2 => on ((x.dat s2.st).bind fun p => (y.dat s2.st).bind fun q => ix2 p q) s2
  | .sl a lo hi, s => bd (ev a s) fun x s1 => bd (match lo with
    | .nopart => some (none, s1)
    | _ => bd (ev lo s1) fun x s2 => on ((asI s2.st x).map some) s2) fun l s2 => bd (match hi with
    | .nopart => some (none, s2)
    | _ => bd (ev hi s2) fun x s3 => on ((asI s3.st x).map some) s3) fun h s3 => on ((x.dat s3.st).bind fun p => sl3 l h p) s3
  | .nopart, _ => none
  | .lc own tg it c e, s => bd (evi it s) fun xs s1 => bd (on (if noOwn s1.sl own = true then fits xs else none) s1) fun xs s1 =>
      bd (lcL (fun x s2 => bd (on (bindT tg x (wipe s2.sl own)) s2) fun l s3 => bd (ev c ⟨l, s3.st⟩) fun k s4 => bd (on (asB s4.st k) s4) fun k s5 =>
        if k = true then bd (ev e s5) fun y s6 => on (match y.fz with | some (.d d) => some (some d) | _ => none) s6 else some (none, s5)) xs s1) fun r s7 => some (.own r, ⟨back s7.sl s1.sl own, s7.st⟩)
  | .lc2 own own1 tg it tg1 it1 e, s => bd (evi it s) fun xs s1 => bd (on (if noOwn s1.sl own = true then fits xs else none) s1) fun xs s1 =>
      bd (lcL (fun x s2 => bd (on (bindT tg x (wipe s2.sl own)) s2) fun l s3 => bd (evi it1 ⟨l, s3.st⟩) fun ys s4 => bd (lcL (fun y s5 => bd (on (bindT tg1 y (wipe s5.sl own1)) s5) fun l2 s6 => bd (ev e ⟨l2, s6.st⟩) fun z s7 =>
        on (match z.fz with | some (.d d) => some (some d) | _ => none) s7) ys s4) fun r s8 => on ((fits r).map fun r => some (.list r)) s8) xs s1) fun r s9 =>
          on ((fits (r.flatMap fun d => match d with | .list ys => ys | _ => [])).map fun r => .own r) ⟨back s9.sl s1.sl own, s9.st⟩
def evs : Exs → S → Option (List W × S)
  | .nil, s => some ([], s)
  | .cons e es, s => bd (ev e s) fun x s1 => bd (on x.fz s1) fun w s1 => bd (evs es s1) fun ws s2 => some (w :: ws, s2)
def evi : It → S → Option (List PyData × S)
  | .seq e, s => bd (ev e s) fun x s1 => bd (on x.fz s1) fun w s1 => on (match w with | .d (.list xs) => some xs | .d (.tuple xs) => some xs | _ => none) s1
  | .rng1 a, s => bd (ev a s) fun x s1 => on ((asI s1.st x).bind fun j => if j ≤ 4611686018427387903 ∧ -4611686018427387904 ≤ j then some (rngD 0 j.toNat) else none) s1
  | .rng2 a b, s => bd (ev a s) fun x s1 => bd (on (asI s1.st x) s1) fun i s1 => bd (ev b s1) fun y s2 => on ((asI s2.st y).bind fun j =>
      if j ≤ 4611686018427387903 ∧ -4611686018427387904 ≤ j ∧ i ≤ 4611686018427387903 ∧ -4611686018427387904 ≤ i then some (rngD i (j - i).toNat) else none) s2
  | .rng3 _ _ _, _ => none
  | .enum a, s => bd (ev a s) fun x s1 => bd (on x.fz s1) fun w s1 => on (match w with | .d (.list xs) => some (enumD 0 xs) | _ => none) s1
  | .zip a b, s => bd (ev a s) fun x s1 => bd (on x.fz s1) fun w s1 => bd (ev b s1) fun y s2 => bd (on y.fz s2) fun u s2 => on (match w, u with
    | .d (.list xs), .d (.list ys) => some (zipD xs ys)
    | .d (.tuple xs), .d (.tuple ys) => some (zipD xs ys)
    | _, _ => none) s2
end
def evp (x : Ex) (s : S) : Option (Option Int × S) := match x with
  | .nopart => some (none, s)
  | _ => bd (ev cal G x s) fun y s1 => on ((asI s1.st y).map some) s1
end

inductive Fl where | nx | bk | ct | rt (r : R)
def loopL (f : PyData → S → Option (Fl × S)) : List PyData → S → Option (Fl × S)
  | [], s => some (.nx, s)
  | x :: xs, s => bd (f x s) fun o s1 => (match o with
    | .nx => loopL f xs s1
    | .ct => loopL f xs s1
    | .bk => some (.nx, s1)
    | .rt r => some (.rt r, s1))
def loopW (t : S → Option (Bool × S)) (f : S → Option (Fl × S)) : Nat → S → Option (Fl × S)
  | 0, _ => none
  | n + 1, s => bd (t s) fun k s1 => if k = true then bd (f s1) fun o s2 => (match o with
    | .nx => loopW t f n s2
    | .ct => loopW t f n s2
    | .bk => some (.nx, s2)
    | .rt r => some (.rt r, s2)) else some (.nx, s1)
def setAll (l : List (Option R)) : List Nat → List W → Option (List (Option R))
  | [], [] => some l
  | i :: is, w :: ws => if i < l.length then setAll (l.set i (some (.w w))) is ws else none
  | _, _ => none
section
variable (cal : Nat → List W → List Cell → Option (R × List Cell)) (G : List PyData) (N : Nat)
mutual
def run : St → S → Option (Fl × S)
  | .asg (.v i) e, s => bd (ev cal G e s) fun r s1 => (match r with
    | .bor _ => none
    | r => if i < s1.sl.length then some (.nx, ⟨s1.sl.set i (some r), s1.st⟩) else none)
  | .asg tg e, s => bd (ev cal G e s) fun r s1 => bd (on r.fz s1) fun w s1 => (match w with
    | .d (.list xs) => bd (on (bindT tg (.tuple xs) s1.sl) s1) fun l s1 => some (.nx, ⟨l, s1.st⟩)
    | .d x => bd (on (bindT tg x s1.sl) s1) fun l s1 => some (.nx, ⟨l, s1.st⟩)
    | _ => none)
  | .asgC i e, s => bd (ev cal G e s) fun r s1 => (match r with
    | .own xs => if i < s1.sl.length then some (.nx, ⟨s1.sl.set i (some (.w (.cell s1.st.length))), s1.st ++ [xs]⟩) else none
    | _ => none)
  | .par is es, s => bd (evs cal G es s) fun ws s1 => bd (on (setAll s1.sl is ws) s1) fun l s1 => some (.nx, ⟨l, s1.st⟩)
  | .setv i k e, s => bd (ev cal G e s) fun r s1 => bd (on r.fz s1) fun w s1 => bd (on (match s1.sl[i]? with | some (some _) => some () | _ => none) s1) fun _ s1 => bd (ev cal G k s1) fun kr s2 => bd (on (asI s2.st kr) s2) fun j s2 => (match w with
    | .d x => (match s2.sl[i]? with
      | some (some (.own xs)) => (match L2.ixN xs.length j with
        | some n => some (.nx, ⟨s2.sl.set i (some (.own (xs.set n x))), s2.st⟩)
        | none => none)
      | some (some (.w (.cell c))) => (match s2.st[c]? with
        | some xs => (match L2.ixN xs.length j with
          | some n => some (.nx, ⟨s2.sl, s2.st.set c (xs.set n x)⟩)
          | none => none)
        | none => none)
      | _ => none)
    | _ => none)
  | .app i e, s => bd (on (match s.sl[i]? with | some (some (.own _)) => some () | _ => none) s) fun _ s => bd (ev cal G e s) fun r s1 => bd (on r.fz s1) fun w s1 => (match w, s1.sl[i]? with
    | .d x, some (some (.own xs)) => if xs.length < 16777216 then some (.nx, ⟨s1.sl.set i (some (.own (xs ++ [x]))), s1.st⟩) else none
    | _, _ => none)
  | .ins _ _ _, _ => none
  | .exp e, s => bd (ev cal G e s) fun _ s1 => some (.nx, s1)
  | .ret e, s => bd (ev cal G e s) fun r s1 => (match r with
    | .bor _ => none
    | r => some (.rt r, s1))
  | .retN, s => some (.rt .n, s)
  | .ite c a b, s => bd (ev cal G c s) fun x s1 => bd (on (asB s1.st x) s1) fun k s1 => if k = true then runs a s1 else runs b s1
  | .for_ tg it b, s => bd (evi cal G it s) fun xs s1 => loopL (fun x s2 => bd (on (bindT tg x s2.sl) s2) fun l s3 => runs b ⟨l, s3.st⟩) xs s1
  | .whl c b, s => loopW (fun s => bd (ev cal G c s) fun x s1 => on (asB s1.st x) s1) (fun s => runs b s) N s
  | .brk, s => some (.bk, s)
  | .cnt, s => some (.ct, s)
  | .pass, s => some (.nx, s)
  | .never, _ => none
def runs : Sts → S → Option (Fl × S)
  | .nil, s => some (.nx, s)
  | .cons a r, s => bd (run a s) fun f s1 => (match f with
    | .nx => runs r s1
    | f => some (f, s1))
end
end
/-- a def: how many parameters, how many names in all, its body -/
structure Df where
  np : Nat
  nn : Nat
  body : Sts
def call (P : List Df) (G : List PyData) (N : Nat) : Nat → Nat → List W → List Cell → Option (R × List Cell)
  | 0, _, _, _ => none
  | k + 1, f, ws, st => (match P[f]? with
    | some d => if ws.length = d.np then (match runs (call P G N k) G N d.body ⟨ws.map (fun w => some (.w w)) ++ List.replicate (d.nn - d.np) none, st⟩ with
      | some (.rt r, s) => some (r, s.st)
      | some (.nx, s) => some (.n, s.st)
      | _ => none) else none
    | none => none)
end Xp

/-! E2: what a value of the small language is in the layer's heap. -/
namespace Xp
open PySem PySem.Spec PyProof.Rows L2

section
variable {K : PySem.W.Frag} {fa : Nat → Option Addr} {F F1 F' H H1 H' H2 : Hp} {ι ι' : List Addr} {v : V} {a : Addr}

theorem sqT_mono (e : Same H H1) {xs : List V} (h : SqT K H a xs) : SqT K H1 a xs := by
  rcases h with (h | ⟨o, h⟩) | h
  · exact .inl (.inl (e _ _ h))
  · exact .inl (.inr ⟨o, e _ _ h⟩)
  · exact .inr h
/-! data: none, bools, ints, texts, tuples (tracked or written), lists (tracked, or known) -/
mutual
inductive Dq (K : PySem.W.Frag) (H : Hp) : V → PyData → Prop
  | non : Dq K H .non .none
  | bl (b : Bool) : Dq K H (.bl b) (.bool b)
  | int (i : Int) : Dq K H (.int i) (.int i)
  | str (x : Str) : Dq K H (.str x) (.str x)
  | lst {a : Addr} {xs : List V} {ds : List PyData} : H a = some (.lst xs) → DqAll K H xs ds → Dq K H (.ref a) (.list ds)
  | tup {a : Addr} {xs : List V} {ds : List PyData} : SqT K H a xs → DqAll K H xs ds → Dq K H (.ref a) (.tuple ds)
inductive DqAll (K : PySem.W.Frag) (H : Hp) : List V → List PyData → Prop
  | nil : DqAll K H [] []
  | cons {v : V} {vs : List V} {d : PyData} {ds : List PyData} : Dq K H v d → DqAll K H vs ds → DqAll K H (v :: vs) (d :: ds)
end
mutual
theorem dq_dp : ∀ (d : PyData) (v : V), Dq K H v d → Dp K H v d
  | .none, _, h => by cases h; exact .non
  | .bool b, _, h => by cases h; exact .bl b
  | .int i, _, h => by cases h; exact .int i
  | .str x, _, h => by cases h; exact .str x
  | .list ds, _, h => by cases h with | lst q r => exact .lst (SqL.of q) (dqa_dp ds _ r)
  | .tuple ds, _, h => by cases h with | tup q r => exact .tup q (dqa_dp ds _ r)
  | .dict _, _, h => by cases h
theorem dqa_dp : ∀ (ds : List PyData) (vs : List V), DqAll K H vs ds → DpAll K H vs ds
  | [], _, h => by cases h; exact .nil
  | d :: ds, _, h => by cases h with | cons q r => exact .cons (dq_dp d _ q) (dqa_dp ds _ r)
end
mutual
theorem dp_mono (e : Same H H1) : ∀ (d : PyData) (v : V), Dq K H v d → Dq K H1 v d
  | .none, _, h => by cases h; exact .non
  | .bool b, _, h => by cases h; exact .bl b
  | .int i, _, h => by cases h; exact .int i
  | .str x, _, h => by cases h; exact .str x
  | .list ds, _, h => by cases h with | lst q r => exact .lst (e _ _ q) (dpa_mono e ds _ r)
  | .tuple ds, _, h => by cases h with | tup q r => exact .tup (sqT_mono e q) (dpa_mono e ds _ r)
  | .dict _, _, h => by cases h
theorem dpa_mono (e : Same H H1) : ∀ (ds : List PyData) (vs : List V), DqAll K H vs ds → DqAll K H1 vs ds
  | [], _, h => by cases h; exact .nil
  | d :: ds, _, h => by cases h with | cons q r => exact .cons (dp_mono e d _ q) (dpa_mono e ds _ r)
end
theorem dpa_len : ∀ {vs : List V} {ds : List PyData}, DqAll K H vs ds → vs.length = ds.length
  | _, _, .nil => rfl
  | _, _, .cons _ t => congrArg (· + 1) (dpa_len t)
theorem dpa_app : ∀ {vs us : List V} {ds es : List PyData}, DqAll K H vs ds → DqAll K H us es → DqAll K H (vs ++ us) (ds ++ es)
  | _, _, _, _, .nil, s => s
  | _, _, _, _, .cons q t, s => .cons q (dpa_app t s)
theorem dpa_take : ∀ {vs : List V} {ds : List PyData} (n : Nat), DqAll K H vs ds → DqAll K H (vs.take n) (ds.take n)
  | _, _, 0, _ => .nil
  | _, _, _ + 1, .nil => .nil
  | _, _, n + 1, .cons q t => .cons q (dpa_take n t)
theorem dpa_drop : ∀ {vs : List V} {ds : List PyData} (n : Nat), DqAll K H vs ds → DqAll K H (vs.drop n) (ds.drop n)
  | _, _, 0, q => q
  | _, _, _ + 1, .nil => .nil
  | _, _, n + 1, .cons _ t => dpa_drop n t
theorem dpa_get : ∀ {vs : List V} {ds : List PyData} {i : Nat} {d : PyData}, DqAll K H vs ds → ds[i]? = some d → ∃ v, vs[i]? = some v ∧ Dq K H v d
  | _, _, _, _, .nil, e => by simp at e
  | _, _, 0, _, .cons q _, e => by simp at e; subst e; exact ⟨_, rfl, q⟩
  | _, _, i + 1, d, .cons _ t, e => by
    obtain ⟨u, h1, h2⟩ := dpa_get (i := i) (d := d) t (by simpa using e)
    exact ⟨u, by simpa using h1, h2⟩
theorem dpa_getV : ∀ {vs : List V} {ds : List PyData} {i : Nat} {u : V}, DqAll K H vs ds → vs[i]? = some u → ∃ d, ds[i]? = some d ∧ Dq K H u d
  | _, _, _, _, .nil, e => by simp at e
  | _, _, 0, _, .cons q _, e => by simp at e; subst e; exact ⟨_, rfl, q⟩
  | _, _, i + 1, d, .cons _ t, e => by
    obtain ⟨u, h1, h2⟩ := dpa_getV (i := i) (u := d) t (by simpa using e)
    exact ⟨u, by simpa using h1, h2⟩
theorem dpa_set {x : V} {d : PyData} (q : Dq K H x d) : ∀ {vs : List V} {ds : List PyData} (n : Nat), DqAll K H vs ds → DqAll K H (vs.set n x) (ds.set n d)
  | _, _, _, .nil => .nil
  | _, _, 0, .cons _ t => .cons q t
  | _, _, n + 1, .cons p t => .cons p (dpa_set q n t)
theorem dpa_rep {vs : List V} {ds : List PyData} (h : DqAll K H vs ds) : ∀ k : Nat, DqAll K H (List.replicate k vs).flatten (List.replicate k ds).flatten
  | 0 => .nil
  | k + 1 => by
    rw [List.replicate_succ, List.replicate_succ, List.flatten_cons, List.flatten_cons]
    exact dpa_app h (dpa_rep h k)

/-! ### a value -/
inductive RW (K : PySem.W.Frag) (fa : Nat → Option Addr) (F : Hp) (ι : List Addr) : V → W → Prop where
  | d {v : V} {x : PyData} (h : Dq K F v x) : RW K fa F ι v (.d x)
  | cell {n : Nat} {a : Addr} (h : ι[n]? = some a) : RW K fa F ι (.ref a) (.cell n)
  | fn {i : Nat} {a : Addr} (h : fa i = some a) : RW K fa F ι (.ref a) (.fn i)
  | known {a : Addr} {ns : List Int} (h : SqL K F a (ns.map V.int)) : RW K fa F ι (.ref a) (.known ns)
structure Own (K : PySem.W.Frag) (F : Hp) (ι : List Addr) (H : Hp) (a : Addr) (xs : List PyData) : Prop where
  ex : ∃ vs, H a = some (.lst vs) ∧ DqAll K F vs xs
  nf : F a = none
  ni : a ∉ ι
inductive RR (K : PySem.W.Frag) (fa : Nat → Option Addr) (F : Hp) (ι : List Addr) (H : Hp) : V → R → Prop where
  | w {v : V} {x : W} (h : RW K fa F ι v x) : RR K fa F ι H v (.w x)
  | own {a : Addr} {xs : List PyData} (h : Own K F ι H a xs) : RR K fa F ι H (.ref a) (.own xs)
  | bor {a : Addr} {xs : List PyData} (h : Own K F ι H a xs) : RR K fa F ι H (.ref a) (.bor xs)

/-- from one moment to a later one -/
structure Stp (F : Hp) (ι : List Addr) (H F' : Hp) (ι' : List Addr) (H' : Hp) : Prop where
  fz : Same F F'
  pre : ∃ more, ι' = ι ++ more ∧ ∀ b ∈ more, H b = none
  ext : ∀ b o, H b = some o → b ∉ ι → H' b = some o
  dom : ∀ b, H' b = none → H b = none
  nof : ∀ b, F b = none → H b ≠ none → b ∉ ι → True
theorem Stp.rfl : Stp F ι H F ι H := ⟨Same.refl _, ⟨[], by simp, by simp⟩, fun _ _ h _ => h, fun _ h => h, fun _ _ _ _ => trivial⟩
theorem Stp.trans {F2 : Hp} {ι2 : List Addr} (x : Stp F ι H F1 ι' H1) (y : Stp F1 ι' H1 F2 ι2 H2) : Stp F ι H F2 ι2 H2 := by
  obtain ⟨m1, e1, n1⟩ := x.pre
  obtain ⟨m2, e2, n2⟩ := y.pre
  refine ⟨x.fz.trans y.fz, ⟨m1 ++ m2, by rw [e2, e1, List.append_assoc], fun b hb => ?_⟩, fun b o h n => ?_, fun b h => x.dom b (y.dom b h), fun _ _ _ _ => trivial⟩
  · rcases List.mem_append.mp hb with q | q
    · exact n1 b q
    · exact x.dom b (n2 b q)
  · refine y.ext b o (x.ext b o h n) fun q => ?_
    rw [e1] at q
    rcases List.mem_append.mp q with q | q
    · exact n q
    · rw [n1 b q] at h
      cases h
theorem Stp.iget (x : Stp F ι H F' ι' H') {n : Nat} (h : ι[n]? = some a) : ι'[n]? = some a := by
  obtain ⟨m, e, _⟩ := x.pre
  rw [e, List.getElem?_append_left (List.getElem?_eq_some_iff.mp h).1]
  exact h
theorem Stp.imem (x : Stp F ι H F' ι' H') (h : a ∈ ι') : a ∈ ι ∨ H a = none := by
  obtain ⟨m, e, n⟩ := x.pre
  rw [e] at h
  rcases List.mem_append.mp h with q | q
  · exact .inl q
  · exact .inr (n _ q)
theorem RW.mono (x : Stp F ι H F' ι' H') {w : W} (h : RW K fa F ι v w) : RW K fa F' ι' v w := by
  cases h with
  | d q => exact .d (dp_mono x.fz _ _ q)
  | cell q => exact .cell (x.iget q)
  | fn q => exact .fn q
  | known q => exact .known (x.fz.seq q)

/-! ### the state -/
structure Ent where
  F : Hp
  ι : List Addr
  H : Hp
  res : Addr → Prop
def OwnAt (s : S) (i : Nat) (xs : List PyData) : Prop := s.sl[i]? = some (some (.own xs))
structure Stt (K : PySem.W.Frag) (fa : Nat → Option Addr) (E : Ent) (F : Hp) (ι : List Addr) (s : S) (σ : L2.St) (H : Hp) : Prop where
  sub : Same F H
  step : Stp E.F E.ι E.H F ι H
  nofz : ∀ b o, F b = some o → E.F b = some o ∨ E.H b = none
  len : σ.length = s.sl.length
  slot : ∀ (i : Nat) (r : R), s.sl[i]? = some (some r) → ∃ v : V, σ[i]? = some (some v) ∧ RR K fa F ι H v r ∧ (∀ xs, r ≠ .bor xs)
  new : ∀ (i : Nat) (xs : List PyData) (a : Addr), OwnAt s i xs → σ[i]? = some (some (.ref a)) → E.H a = none
  dist : ∀ (i j : Nat) (xs ys : List PyData), i ≠ j → OwnAt s i xs → OwnAt s j ys → σ[i]? ≠ σ[j]?
  st : ∀ (n : Nat) (xs : List PyData), s.st[n]? = some xs → ∃ a vs, ι[n]? = some a ∧ H a = some (.lst vs) ∧ DqAll K F vs xs
  nfz : ∀ a ∈ ι, F a = none ∧ H a ≠ none
  stl : s.st.length = ι.length
  nd : ι.Nodup
  res : ∀ b, E.res b → F b = none ∧ H b ≠ none ∧ b ∉ ι ∧ ∀ (i : Nat) (xs : List PyData), OwnAt s i xs → σ[i]? ≠ some (some (.ref b))
/-- a fresh list stands in no slot -/
def Fre (E : Ent) (s : S) (σ : L2.St) (v : V) (r : R) : Prop := ∀ xs a, r = .own xs → v = .ref a → E.H a = none ∧ (∀ (i : Nat) (ys : List PyData), OwnAt s i ys → σ[i]? ≠ some (some v)) ∧ ¬ E.res a
theorem fre_w {E : Ent} {s : S} {σ : L2.St} {w : W} : Fre E s σ v (.w w) := fun _ _ e => by cases e
theorem fre_bor {E : Ent} {s : S} {σ : L2.St} {xs : List PyData} : Fre E s σ v (.bor xs) := fun _ _ e => by cases e

theorem RR.mono (x : Stp F ι H F' ι' H') {r : R} (h : RR K fa F ι H v r) (nf : ∀ a xs, v = .ref a → Own K F ι H a xs → F' a = none) : RR K fa F' ι' H' v r := by
  have ow : ∀ a xs, v = .ref a → Own K F ι H a xs → Own K F' ι' H' a xs := fun a xs ev o => by
    obtain ⟨vs, e1, e2⟩ := o.ex
    refine ⟨⟨vs, x.ext a _ e1 o.ni, dpa_mono x.fz _ _ e2⟩, nf a xs ev o, fun q => ?_⟩
    rcases x.imem q with q | q
    · exact o.ni q
    · rw [e1] at q
      cases q
  cases h with
  | w q => exact .w (q.mono x)
  | own o => exact .own (ow _ _ rfl o)
  | bor o => exact .bor (ow _ _ rfl o)

/-- what may be read as data -/
def Rv (K : PySem.W.Frag) (F H : Hp) (v : V) : PyData → Prop
  | .list xs => ∃ a vs, v = .ref a ∧ H a = some (.lst vs) ∧ DqAll K F vs xs
  | d => Dq K F v d
theorem Rv.of (e : Same F H) {d : PyData} (h : Dq K F v d) : Rv K F H v d := by
  cases d with
  | list xs => cases h with | lst q r => exact ⟨_, _, rfl, e _ _ q, r⟩
  | _ => exact h
theorem Own.rv {xs : List PyData} (o : Own K F ι H a xs) : Rv K F H (.ref a) (.list xs) := by
  obtain ⟨vs, e1, e2⟩ := o.ex
  exact ⟨a, vs, rfl, e1, e2⟩
theorem Stt.rv {E : Ent} {s : S} {σ : L2.St} (S0 : Stt K fa E F ι s σ H) {r : R} {d : PyData} (h : RR K fa F ι H v r) (e : r.dat s.st = some d) : Rv K F H v d := by
  cases h with
  | w q =>
    cases q with
    | d q => cases e; exact Rv.of S0.sub q
    | @cell n a q =>
      cases c : s.st[n]? with
      | none => simp [R.dat, c] at e
      | some xs =>
        simp [R.dat, c] at e
        subst e
        obtain ⟨b, vs, e1, e2, e3⟩ := S0.st n xs c
        rw [q] at e1
        cases e1
        exact ⟨_, vs, rfl, e2, e3⟩
    | fn q => cases e
    | known q => cases e
  | own o => cases e; exact o.rv
  | bor o => cases e; exact o.rv
theorem Rv.dp (e : Same F H) {d : PyData} (h : Rv K F H v d) : Dq K H v d := by
  cases d with
  | list xs =>
    obtain ⟨a, vs, rfl, q, r⟩ := h
    exact .lst q (dpa_mono e _ _ r)
  | none => exact dp_mono e _ _ h
  | bool b => exact dp_mono e _ _ h
  | int i => exact dp_mono e _ _ h
  | str x => exact dp_mono e _ _ h
  | tuple xs => exact dp_mono e _ _ h
  | dict xs => exact dp_mono e _ _ h
theorem Rv.int {i : Int} (h : Rv K F H v (.int i)) : v = .int i := by cases (show Dq K F v (.int i) from h); rfl
theorem Rv.bl {i : Bool} (h : Rv K F H v (.bool i)) : v = .bl i := by cases (show Dq K F v (.bool i) from h); rfl
theorem Rv.str {i : Str} (h : Rv K F H v (.str i)) : v = .str i := by cases (show Dq K F v (.str i) from h); rfl
theorem Rv.tup (e : Same F H) {xs : List PyData} (h : Rv K F H v (.tuple xs)) : ∃ a vs, v = .ref a ∧ SqT K F a vs ∧ SqT K H a vs ∧ DqAll K F vs xs := by
  cases (show Dq K F v (.tuple xs) from h) with | tup q r => exact ⟨_, _, rfl, q, sqT_mono e q, r⟩

/-- a result made at H -/
inductive Mk (K : PySem.W.Frag) (F H : Hp) : R → V → Hp → Prop where
  | old {v : V} {d : PyData} (h : Dq K F v d) : Mk K F H (.w (.d d)) v H
  | tup {p : Addr} {vs : List V} {ds : List PyData} (h : H p = none) (q : DqAll K F vs ds) : Mk K F H (.w (.d (.tuple ds))) (.ref p) (upd H p (.tup vs))
  | lst {p : Addr} {vs : List V} {ds : List PyData} (h : H p = none) (q : DqAll K F vs ds) : Mk K F H (.own ds) (.ref p) (upd H p (.lst vs))

theorem same_upd {p : Addr} {o : HO} (h : H p = none) : Same H (upd H p o) := fun b x e => by
  rw [upd_ne (ne_of_none e h)]
  exact e
theorem upd_sub {p : Addr} {o : HO} (e : Same F H) : Same (upd F p o) (upd H p o) := fun b x q => by
  by_cases hb : b = p
  · subst hb
    rw [upd_same] at q ⊢
    exact q
  · rw [upd_ne hb] at q ⊢
    exact e b x q
section
variable {E : Ent} {s : S} {σ : L2.St}
/-- an object that is none of ours is laid, or changed -/
theorem Stt.side (S0 : Stt K fa E F ι s σ H) {p : Addr} {o : HO} (e1 : E.H p = none) (e2 : F p = none) (e3 : p ∉ ι) (e4 : ∀ (i : Nat) (xs : List PyData), OwnAt s i xs → σ[i]? ≠ some (some (.ref p))) : Stt K fa E F ι s σ (upd H p o) where
  sub := fun b x q => by rw [upd_ne (ne_of_none q e2)]; exact S0.sub b x q
  step := by
    refine ⟨S0.step.fz, S0.step.pre, fun b x q n => ?_, fun b q => ?_, fun _ _ _ _ => trivial⟩
    · rw [upd_ne (ne_of_none q e1)]
      exact S0.step.ext b x q n
    · by_cases hb : b = p
      · rw [hb]; exact e1
      · rw [upd_ne hb] at q
        exact S0.step.dom b q
  nofz := S0.nofz
  len := S0.len
  slot := fun i r h => by
    obtain ⟨v, h1, h2, h3⟩ := S0.slot i r h
    refine ⟨v, h1, ?_, h3⟩
    cases h2 with
    | w q => exact .w q
    | @own a xs o =>
      obtain ⟨vs, q1, q2⟩ := o.ex
      refine .own ⟨⟨vs, ?_, q2⟩, o.nf, o.ni⟩
      rw [upd_ne]
      · exact q1
      · rintro rfl
        exact e4 i xs h h1
    | bor o => exact absurd rfl (h3 _)
  new := S0.new
  dist := S0.dist
  st := fun n xs h => by
    obtain ⟨a, vs, h1, h2, h3⟩ := S0.st n xs h
    refine ⟨a, vs, h1, ?_, h3⟩
    rw [upd_ne]
    · exact h2
    · rintro rfl
      exact e3 (List.mem_of_getElem? h1)
  nfz := fun a ha => by
    refine ⟨(S0.nfz a ha).1, ?_⟩
    rw [upd_ne]
    · exact (S0.nfz a ha).2
    · rintro rfl
      exact e3 ha
  stl := S0.stl
  nd := S0.nd
  res := fun b hb => by
    obtain ⟨h1, h2, h3, h4⟩ := S0.res b hb
    refine ⟨h1, ?_, h3, h4⟩
    by_cases e : b = p
    · rw [e, upd_same]
      exact fun z => by cases z
    · rw [upd_ne e]
      exact h2
theorem Stt.fresh (S0 : Stt K fa E F ι s σ H) {p : Addr} (h : H p = none) : E.H p = none ∧ F p = none ∧ p ∉ ι ∧ (∀ (i : Nat) (xs : List PyData), OwnAt s i xs → σ[i]? ≠ some (some (.ref p))) ∧ ¬ E.res p := by
  refine ⟨S0.step.dom p h, S0.sub.free h, fun q => (S0.nfz p q).2 h, fun i xs o e => ?_, fun z => (S0.res p z).2.1 h⟩
  obtain ⟨v, h1, h2, _⟩ := S0.slot i _ o
  rw [h1] at e
  cases e
  cases h2 with
  | own q =>
    obtain ⟨vs, q1, _⟩ := q.ex
    rw [h] at q1
    cases q1
theorem Stt.lay (S0 : Stt K fa E F ι s σ H) {p : Addr} {o : HO} (h : H p = none) : Stt K fa E F ι s σ (upd H p o) :=
  let ⟨a, b, c, d, _⟩ := S0.fresh h
  S0.side a b c d
theorem Stp.lay {p : Addr} {o : HO} (h : H p = none) : Stp F ι H F ι (upd H p o) :=
  ⟨Same.refl _, ⟨[], by simp, by simp⟩, fun b x q _ => by rw [upd_ne (ne_of_none q h)]; exact q, fun b q => by
    by_cases hb : b = p
    · rw [hb]; exact h
    · rw [upd_ne hb] at q
      exact q, fun _ _ _ _ => trivial⟩
/-- what is known of the frozen part grows -/
theorem Stt.grow (S0 : Stt K fa E F ι s σ H) {p : Addr} {o : HO} (e1 : F p = none) (e2 : H p = some o) (e3 : E.H p = none) (e4 : p ∉ ι) (e5 : ∀ (i : Nat) (xs : List PyData), OwnAt s i xs → σ[i]? ≠ some (some (.ref p))) (e6 : ¬ E.res p) : Stt K fa E (upd F p o) ι s σ H where
  sub := fun b x q => by
    by_cases hb : b = p
    · subst hb
      rw [upd_same] at q
      cases q
      exact e2
    · rw [upd_ne hb] at q
      exact S0.sub b x q
  step := ⟨S0.step.fz.trans (same_upd e1), S0.step.pre, S0.step.ext, S0.step.dom, fun _ _ _ _ => trivial⟩
  nofz := fun b x q => by
    by_cases hb : b = p
    · subst hb
      exact .inr e3
    · rw [upd_ne hb] at q
      exact S0.nofz b x q
  len := S0.len
  slot := fun i r h => by
    obtain ⟨v, h1, h2, h3⟩ := S0.slot i r h
    refine ⟨v, h1, ?_, h3⟩
    cases h2 with
    | w q =>
      refine .w ?_
      cases q with
      | d q => exact .d (dp_mono (same_upd e1) _ _ q)
      | cell q => exact .cell q
      | fn q => exact .fn q
      | known q => exact .known ((same_upd e1).seq q)
    | @own a xs q =>
      obtain ⟨vs, q1, q2⟩ := q.ex
      refine .own ⟨⟨vs, q1, dpa_mono (same_upd e1) _ _ q2⟩, ?_, q.ni⟩
      rw [upd_ne]
      · exact q.nf
      · rintro rfl
        exact e5 i xs h h1
    | bor q => exact absurd rfl (h3 _)
  new := S0.new
  dist := S0.dist
  st := fun n xs h => by
    obtain ⟨a, vs, h1, h2, h3⟩ := S0.st n xs h
    exact ⟨a, vs, h1, h2, dpa_mono (same_upd e1) _ _ h3⟩
  nfz := fun a ha => by
    refine ⟨?_, (S0.nfz a ha).2⟩
    rw [upd_ne]
    · exact (S0.nfz a ha).1
    · rintro rfl
      exact e4 ha
  stl := S0.stl
  nd := S0.nd
  res := fun b hb => by
    obtain ⟨h1, h2, h3, h4⟩ := S0.res b hb
    refine ⟨?_, h2, h3, h4⟩
    rw [upd_ne]
    · exact h1
    · rintro rfl
      exact e6 hb
theorem Stp.grow {p : Addr} {o : HO} (h : F p = none) : Stp F ι H (upd F p o) ι H :=
  ⟨same_upd h, ⟨[], by simp, by simp⟩, fun _ _ q _ => q, fun _ q => q, fun _ _ _ _ => trivial⟩
/-- behind a result that was made -/
theorem Stt.made (S0 : Stt K fa E F ι s σ H) {r : R} (m : Mk K F H r v H') : ∃ F', Stt K fa E F' ι s σ H' ∧ Stp F ι H F' ι H' ∧ RR K fa F' ι H' v r ∧ Fre E s σ v r := by
  cases m with
  | old q => exact ⟨F, S0, Stp.rfl, .w (.d q), fre_w⟩
  | @tup p vs ds h q =>
    obtain ⟨a1, a2, a3, a4, a5⟩ := S0.fresh h
    refine ⟨upd F p (.tup vs), (S0.lay h).grow a2 upd_same a1 a3 a4 a5, (Stp.lay h).trans (Stp.grow a2), .w (.d (.tup (SqT.of upd_same) (dpa_mono (same_upd a2) _ _ q))), fre_w⟩
  | @lst p vs ds h q =>
    obtain ⟨a1, a2, a3, a4, a5⟩ := S0.fresh h
    refine ⟨F, S0.lay h, Stp.lay h, .own ⟨⟨vs, upd_same, q⟩, a2, a3⟩, fun xs a e1 e2 => ?_⟩
    cases e2
    exact ⟨a1, a4, a5⟩
/-- a fresh list is frozen -/
theorem Stt.froze (S0 : Stt K fa E F ι s σ H) {r : R} {w : W} (h : RR K fa F ι H v r) (f : Fre E s σ v r) (e : r.fz = some w) : ∃ F', Stt K fa E F' ι s σ H ∧ Stp F ι H F' ι H ∧ RW K fa F' ι v w := by
  cases h with
  | w q => cases e; exact ⟨F, S0, Stp.rfl, q⟩
  | @own a xs o =>
    cases e
    obtain ⟨vs, e1, e2⟩ := o.ex
    obtain ⟨f1, f2, f3⟩ := f xs a rfl rfl
    exact ⟨upd F a (.lst vs), S0.grow o.nf e1 f1 o.ni f2 f3, Stp.grow o.nf, .d (.lst (upd_same) (dpa_mono (same_upd o.nf) _ _ e2))⟩
  | bor o => cases e
end
end
end Xp

/-! E3: the operations, by values. -/
namespace Xp
open PySem PySem.Spec PyProof.Rows L2

def boO : Bo → Operator
  | .add => .Add | .sub => .Sub | .mul => .Mult | .fdiv => .FloorDiv | .mod => .Mod | .pow => .Pow
def rB (K : PySem.W.Frag) (o : Bo) : R2 := fun x y H Q => ∃ F p q r, Same F H ∧ Rv K F H x p ∧ Rv K F H y q ∧ bin2 o p q = some r ∧ ∀ v H', Mk K F H r v H' → Q v H'
section
variable {X : Cx} {pins : List (Addr × Obj)} {σ : L2.St} {H : Hp} {s : Shared} {a : Addr} {xs ys : List V}
theorem ite_some {α : Type} {c : Prop} [Decidable c] {x y : α} (h : (if c then some x else none) = some y) : c ∧ x = y := by
  by_cases q : c
  · rw [if_pos q] at h
    exact ⟨q, Option.some.inj h⟩
  · rw [if_neg q] at h
    cases h
theorem mulOk_ok {i j : Int} (h : mulOk i j = true) : IntMulOk i j := by
  unfold mulOk at h
  simp only [Bool.or_eq_true, decide_eq_true_eq] at h
  rcases h with (h | h) | h
  · exact CMul.ok (.inl ⟨by omega, by omega⟩)
  · exact CMul.ok (.inr ⟨by omega, by omega⟩)
  · exact CMulW.ok h
theorem sizeL : (sizeLine : Nat) = 16777216 := sizeLine_eq

theorem op_bin (o : Bo) : OpR X (binaryOp (boO o)) (rB X.K o) := by
  intro pins s σ H x y v u Q I rx ry h
  obtain ⟨F, p, q, r, e, hp, hq, hr, k⟩ := h
  unfold bin2 at hr
  split at hr
  · cases Option.some.inj hr
    exact op_add pins s σ H x y v u Q I rx ry ⟨_, _, hp.int, hq.int, k _ _ (.old (.int _))⟩
  · obtain ⟨c, hr⟩ := ite_some hr
    cases hr
    exact op_add_str pins s σ H x y v u Q I rx ry ⟨_, _, hp.str, hq.str, by rw [sizeL]; exact c, k _ _ (.old (.str _))⟩
  · obtain ⟨c, hr⟩ := ite_some hr
    cases hr
    obtain ⟨a1, v1, rfl, f1, t1, q1⟩ := hp.tup e
    obtain ⟨a2, v2, rfl, f2, t2, q2⟩ := hq.tup e
    refine op_catA pins s σ H _ _ v u Q I rx ry ⟨_, _, _, _, rfl, rfl, t1, t2, by rw [sizeL, dpa_len q1, dpa_len q2]; exact c, fun z => ?_, fun z z2 => ?_, fun z z2 p hp => ?_⟩
    · subst z
      cases q1
      exact k _ _ (.old (.tup f2 q2))
    · subst z2
      cases q2
      refine k _ _ (.old ?_)
      rw [List.append_nil]
      exact .tup f1 q1
    · exact k _ _ (.tup hp (dpa_app q1 q2))
  · obtain ⟨c, hr⟩ := ite_some hr
    cases hr
    obtain ⟨a1, v1, rfl, t1, q1⟩ := hp
    obtain ⟨a2, v2, rfl, t2, q2⟩ := hq
    exact op_cat pins s σ H _ _ v u Q I rx ry ⟨_, _, _, _, rfl, rfl, t1, t2, by rw [sizeL, dpa_len q1, dpa_len q2]; exact c, fun p hp => k _ _ (.lst hp (dpa_app q1 q2))⟩
  · cases Option.some.inj hr
    exact op_sub pins s σ H x y v u Q I rx ry ⟨_, _, hp.int, hq.int, k _ _ (.old (.int _))⟩
  · obtain ⟨c, hr⟩ := ite_some hr
    cases hr
    cases hp.int
    cases hq.int
    obtain ⟨t, rfl⟩ := rx
    obtain ⟨t', rfl⟩ := ry
    exact mul_int ⟨.int _, H, I.tok _, ⟨_, rfl⟩, k _ _ (.old (.int _))⟩ (mulOk_ok c)
  · obtain ⟨⟨c1, c2, c3, c4⟩, hr⟩ := ite_some hr
    cases hr
    obtain ⟨a1, v1, rfl, f1, t1, q1⟩ := hp.tup e
    cases hq.int
    refine op_repT pins s σ H _ _ v u Q I rx ry ⟨_, _, _, rfl, rfl, t1, ?_, c1, c2, by rw [dpa_len q1]; exact c4, fun p hp => k _ _ (.tup hp (dpa_rep q1 _))⟩
    intro z
    subst z
    cases q1
    exact c3 rfl
  · obtain ⟨⟨c1, c2, c3⟩, hr⟩ := ite_some hr
    cases hr
    obtain ⟨a1, v1, rfl, t1, q1⟩ := hp
    cases hq.int
    refine op_rep pins s σ H _ _ v u Q I rx ry ⟨_, _, _, rfl, rfl, t1, by omega, by omega, ?_, fun p hp => k _ _ (.lst hp (dpa_rep q1 _))⟩
    rw [dpa_len q1, sizeL]
    exact Nat.le_trans (Nat.mul_le_mul c3 (show _ ≤ 1000 by omega)) (by decide)
  · obtain ⟨c, hr⟩ := ite_some hr
    cases hr
    unfold divOk at c
    simp only [Bool.and_eq_true, decide_eq_true_eq] at c
    cases hp.int
    cases hq.int
    obtain ⟨t, rfl⟩ := rx
    obtain ⟨t', rfl⟩ := ry
    exact floordiv_int c.1 ⟨.int _, H, I.tok _, ⟨_, rfl⟩, k _ _ (.old (.int _))⟩ (.inl (PyProof.noPylong_of_log2 c.2))
  · obtain ⟨c, hr⟩ := ite_some hr
    cases hr
    exact op_modN pins s σ H x y v u Q I rx ry ⟨_, _, hp.int, hq.int, c, k _ _ (.old (.int _))⟩
  · obtain ⟨⟨c1, c2, c3⟩, hr⟩ := ite_some hr
    cases hr
    exact op_pow pins s σ H x y v u Q I rx ry ⟨_, _, hp.int, hq.int, ⟨c1, by omega, c3⟩, k _ _ (.old (.int _))⟩
  · cases hr

/-! ### comparisons -/
def coO : Co → CmpOp
  | .eq => .Eq | .ne => .NotEq | .lt => .Lt | .le => .LtE | .gt => .Gt | .ge => .GtE | .isn => .Is | .notn => .IsNot | .isb => .Is | .notb => .IsNot | .isin => .In | .notin => .NotIn
def rC (K : PySem.W.Frag) (o : Co) : R2 := fun x y H Q => ∃ F p q b, Same F H ∧ Rv K F H x p ∧ Rv K F H y q ∧ cmp2 o p q = some b ∧ Q (.bl b) H
theorem isNon {F : Hp} {x : V} {K : PySem.W.Frag} {p : PyData} (h : Rv K F H x p) : decide (x = .non) = nonB p := by
  cases p with
  | none => cases (show Dq K F x .none from h); rfl
  | bool b => rw [h.bl]; rfl
  | int b => rw [h.int]; rfl
  | str b => rw [h.str]; rfl
  | list b => obtain ⟨_, _, rfl, _⟩ := h; rfl
  | tuple b => cases (show Dq K F x (.tuple b) from h); rfl
  | dict b => cases (show Dq K F x (.dict b) from h)
theorem op_cmp (hu : X.A.units + 65 < cLine) (o : Co) : OpR X (compareOp (coO o)) (rC X.K o) := by
  intro pins s σ H x y v u Q I rx ry h
  obtain ⟨F, p, q, b, e, hp, hq, hr, k⟩ := h
  unfold cmp2 at hr
  split at hr
  · cases Option.some.inj hr
    refine op_eq pins s σ H x y v u Q I rx ry ?_
    rw [hp.str, hq.str]
    refine ⟨rfl, ?_⟩
    rw [dec_str]
    exact k
  · cases Option.some.inj hr
    refine op_ne pins s σ H x y v u Q I rx ry ?_
    rw [hp.str, hq.str]
    refine ⟨rfl, ?_⟩
    rw [dec_str]
    exact k
  · obtain ⟨c, hr⟩ := ite_some hr
    subst hr
    rw [Bool.and_eq_true] at c
    exact op_eqD (by omega) pins s σ H x y v u Q I rx ry ⟨_, _, dq_dp _ _ (hp.dp e), dq_dp _ _ (hq.dp e), c.1, c.2, k⟩
  · obtain ⟨c, hr⟩ := ite_some hr
    subst hr
    rw [Bool.and_eq_true] at c
    exact op_neD (by omega) pins s σ H x y v u Q I rx ry ⟨_, _, dq_dp _ _ (hp.dp e), dq_dp _ _ (hq.dp e), c.1, c.2, k⟩
  · cases Option.some.inj hr
    exact op_lt pins s σ H x y v u Q I rx ry ⟨_, _, hp.int, hq.int, k⟩
  · cases Option.some.inj hr
    exact op_le pins s σ H x y v u Q I rx ry ⟨_, _, hp.int, hq.int, k⟩
  · cases Option.some.inj hr
    exact op_gt pins s σ H x y v u Q I rx ry ⟨_, _, hp.int, hq.int, k⟩
  · cases Option.some.inj hr
    exact op_ge pins s σ H x y v u Q I rx ry ⟨_, _, hp.int, hq.int, k⟩
  · have e1 := isNon hp
    have e2 := Option.some.inj hr
    have e3 : y = .non := by cases (show Dq X.K F y .none from hq); rfl
    refine op_isN pins s σ H x y v u Q I rx ry ⟨e3, ?_⟩
    rw [e1, e2]
    exact k
  · have e1 := isNon hp
    have e2 := Option.some.inj hr
    have e3 : y = .non := by cases (show Dq X.K F y .none from hq); rfl
    refine op_notN pins s σ H x y v u Q I rx ry ⟨e3, ?_⟩
    rw [e1]
    rw [e2]
    exact k
  · cases Option.some.inj hr
    exact op_isBl pins s σ H x y v u Q I rx ry ⟨_, _, hp.bl, hq.bl, k⟩
  · cases Option.some.inj hr
    exact op_notBl pins s σ H x y v u Q I rx ry ⟨_, _, hp.bl, hq.bl, k⟩
  · cases q with
    | list zs =>
      simp only [seqOf, Option.bind_some] at hr
      unfold inD at hr
      obtain ⟨c, hr⟩ := ite_some hr
      subst hr
      rw [Bool.and_eq_true] at c
      exact op_inD hu pins s σ H x y v u Q I rx ry ⟨_, _, dq_dp _ _ (hp.dp e), dq_dp _ _ (hq.dp e), c.1, c.2, k⟩
    | tuple zs =>
      simp only [seqOf, Option.bind_some] at hr
      unfold inD at hr
      obtain ⟨c, hr⟩ := ite_some hr
      subst hr
      rw [Bool.and_eq_true] at c
      obtain ⟨as, r1⟩ := Dp.reads I p x v (dq_dp _ _ (hp.dp e)) rx
      obtain ⟨bs, r2⟩ := Dp.reads I (.tuple zs) y u (dq_dp _ _ (hq.dp e)) ry
      exact SeqAt.in_tuple_reads r2 r1 (SeqAt.canLay_of_shaped c.2) (SeqAt.canLay_of_shaped c.1) (room_in_shaped c.1 hu) ⟨.bl _, H, I, rfl, k⟩
    | _ => cases hr
  · cases q with
    | list zs =>
      simp only [seqOf, Option.bind_some, Option.map_eq_some_iff] at hr
      obtain ⟨b0, hr, e0⟩ := hr
      unfold inD at hr
      obtain ⟨c, hr⟩ := ite_some hr
      subst hr
      subst e0
      rw [Bool.and_eq_true] at c
      exact op_notInD hu pins s σ H x y v u Q I rx ry ⟨_, _, dq_dp _ _ (hp.dp e), dq_dp _ _ (hq.dp e), c.1, c.2, k⟩
    | tuple zs =>
      simp only [seqOf, Option.bind_some, Option.map_eq_some_iff] at hr
      obtain ⟨b0, hr, e0⟩ := hr
      unfold inD at hr
      obtain ⟨c, hr⟩ := ite_some hr
      subst hr
      subst e0
      rw [Bool.and_eq_true] at c
      obtain ⟨as, r1⟩ := Dp.reads I p x v (dq_dp _ _ (hp.dp e)) rx
      obtain ⟨bs, r2⟩ := Dp.reads I (.tuple zs) y u (dq_dp _ _ (hq.dp e)) ry
      exact SeqAt.notIn_tuple_reads r2 r1 (SeqAt.canLay_of_shaped c.2) (SeqAt.canLay_of_shaped c.1) (room_in_shaped c.1 hu) ⟨.bl _, H, I, rfl, k⟩
    | _ => cases hr
  · cases hr
end
end Xp

/-! E4: built-in functions, subscripts, slices, by values. -/
namespace Xp
open PySem PySem.Spec PyProof.Rows L2

theorem ints_eq : ∀ {xs : List PyData} {ns : List Int}, intsOf xs = some ns → xs = ns.map .int
  | [], ns, h => by cases h; rfl
  | .int a :: r, ns, h => by
    simp only [intsOf, Option.map_eq_some_iff] at h
    obtain ⟨m, h1, rfl⟩ := h
    rw [ints_eq h1]
    rfl
  | .none :: _, _, h => by cases h
  | .bool _ :: _, _, h => by cases h
  | .str _ :: _, _, h => by cases h
  | .list _ :: _, _, h => by cases h
  | .tuple _ :: _, _, h => by cases h
  | .dict _ :: _, _, h => by cases h
theorem bls_eq : ∀ {xs : List PyData} {ns : List Bool}, blsOf xs = some ns → xs = ns.map .bool
  | [], ns, h => by cases h; rfl
  | .bool a :: r, ns, h => by
    simp only [blsOf, Option.map_eq_some_iff] at h
    obtain ⟨m, h1, rfl⟩ := h
    rw [bls_eq h1]
    rfl
  | .none :: _, _, h => by cases h
  | .int _ :: _, _, h => by cases h
  | .str _ :: _, _, h => by cases h
  | .list _ :: _, _, h => by cases h
  | .tuple _ :: _, _, h => by cases h
  | .dict _ :: _, _, h => by cases h
theorem strs_eq : ∀ {xs : List PyData} {ns : List Str}, strsOf xs = some ns → xs = ns.map .str
  | [], ns, h => by cases h; rfl
  | .str a :: r, ns, h => by
    simp only [strsOf, Option.map_eq_some_iff] at h
    obtain ⟨m, h1, rfl⟩ := h
    rw [strs_eq h1]
    rfl
  | .none :: _, _, h => by cases h
  | .int _ :: _, _, h => by cases h
  | .bool _ :: _, _, h => by cases h
  | .list _ :: _, _, h => by cases h
  | .tuple _ :: _, _, h => by cases h
  | .dict _ :: _, _, h => by cases h
section
variable {K : PySem.W.Frag} {F H : Hp}
theorem dqa_ints : ∀ {ns : List Int} {vs : List V}, DqAll K F vs (ns.map .int) → vs = ns.map V.int
  | [], _, h => by cases h; rfl
  | n :: ns, _, h => by
    cases h with
    | cons q r =>
      cases q
      rw [dqa_ints r]
      rfl
theorem dqa_bls : ∀ {ns : List Bool} {vs : List V}, DqAll K F vs (ns.map .bool) → vs = ns.map V.bl
  | [], _, h => by cases h; rfl
  | n :: ns, _, h => by
    cases h with
    | cons q r =>
      cases q
      rw [dqa_bls r]
      rfl
theorem dqa_strs : ∀ {ns : List Str} {vs : List V}, DqAll K F vs (ns.map .str) → vs = ns.map V.str
  | [], _, h => by cases h; rfl
  | n :: ns, _, h => by
    cases h with
    | cons q r =>
      cases q
      rw [dqa_strs r]
      rfl
theorem dqa_of_ints : ∀ {ns : List Int}, DqAll K F (ns.map V.int) (ns.map .int)
  | [] => .nil
  | n :: ns => .cons (.int n) dqa_of_ints
end
theorem greatest_of : ∀ {ns : List Int} {g : Int}, greatest ns = some g → g ∈ ns ∧ ∀ y ∈ ns, y ≤ g
  | [], _, h => by cases h
  | [a], g, h => by cases h; simp
  | a :: b :: r, g, h => by
    simp only [greatest, Option.map_eq_some_iff] at h
    obtain ⟨m, h1, rfl⟩ := h
    obtain ⟨q1, q2⟩ := greatest_of (ns := b :: r) h1
    refine ⟨?_, fun y hy => ?_⟩
    · split
      · exact List.mem_cons_of_mem _ q1
      · exact List.mem_cons_self
    · rcases List.mem_cons.mp hy with rfl | hy
      · split <;> omega
      · have := q2 y hy
        split <;> omega
theorem least_of : ∀ {ns : List Int} {g : Int}, least ns = some g → g ∈ ns ∧ ∀ y ∈ ns, g ≤ y
  | [], _, h => by cases h
  | [a], g, h => by cases h; simp
  | a :: b :: r, g, h => by
    simp only [least, Option.map_eq_some_iff] at h
    obtain ⟨m, h1, rfl⟩ := h
    obtain ⟨q1, q2⟩ := least_of (ns := b :: r) h1
    refine ⟨?_, fun y hy => ?_⟩
    · split
      · exact List.mem_cons_of_mem _ q1
      · exact List.mem_cons_self
    · rcases List.mem_cons.mp hy with rfl | hy
      · split <;> omega
      · have := q2 y hy
        split <;> omega
theorem insI_perm (a : Int) : ∀ l : List Int, (insI a l).Perm (a :: l)
  | [] => List.Perm.refl _
  | b :: r => by
    unfold insI
    split
    · exact List.Perm.refl _
    · exact ((insI_perm a r).cons b).trans (List.Perm.swap a b r)
theorem sortI_perm : ∀ l : List Int, (sortI l).Perm l
  | [] => List.Perm.refl _
  | a :: r => (insI_perm a (sortI r)).trans ((sortI_perm r).cons a)
theorem insI_sorted (a : Int) : ∀ {l : List Int}, l.Pairwise (· ≤ ·) → (insI a l).Pairwise (· ≤ ·)
  | [], _ => by simp [insI]
  | b :: r, h => by
    obtain ⟨h1, h2⟩ := List.pairwise_cons.mp h
    unfold insI
    split
    · refine List.pairwise_cons.mpr ⟨fun x hx => ?_, h⟩
      rcases List.mem_cons.mp hx with rfl | hx
      · assumption
      · have := h1 x hx
        omega
    · refine List.pairwise_cons.mpr ⟨fun x hx => ?_, insI_sorted a h2⟩
      rcases List.mem_cons.mp ((insI_perm a r).mem_iff.mp hx) with rfl | hx
      · omega
      · exact h1 x hx
theorem sortI_sorted : ∀ l : List Int, (sortI l).Pairwise (· ≤ ·)
  | [] => List.Pairwise.nil
  | a :: r => insI_sorted a (sortI_sorted r)

def rU (K : PySem.W.Frag) (f : U1) : List V → Hp → VK → Prop := fun xs H Q => ∃ x F p r, xs = [x] ∧ Same F H ∧ Rv K F H x p ∧ un1 f p = some r ∧ ∀ v H', Mk K F H r v H' → Q v H'
def rU2 (K : PySem.W.Frag) (f : U2) : List V → Hp → VK → Prop := fun xs H Q => ∃ x y F p q r, xs = [x, y] ∧ Same F H ∧ Rv K F H x p ∧ Rv K F H y q ∧ un2 f p q = some r ∧ ∀ v H', Mk K F H r v H' → Q v H'
section
variable {X : Cx}
theorem cu_len : CallR X (.builtin "len") (rU X.K .len) := by
  intro pins s σ H xs us Q I r h
  obtain ⟨x, F, p, res, rfl, e, hp, hr, k⟩ := h
  cases p with
  | list zs =>
    cases Option.some.inj hr
    obtain ⟨a, vs, rfl, t, q⟩ := hp
    exact call_len_seq pins s σ H _ us Q I r ⟨_, _, rfl, .inl (SqL.of t), by rw [dpa_len q]; exact k _ _ (.old (.int _))⟩
  | tuple zs =>
    cases Option.some.inj hr
    obtain ⟨a, vs, rfl, _, t, q⟩ := hp.tup e
    exact call_len_seq pins s σ H _ us Q I r ⟨_, _, rfl, .inr t, by rw [dpa_len q]; exact k _ _ (.old (.int _))⟩
  | _ => cases hr
theorem cu_abs : CallR X (.builtin "abs") (rU X.K .abs) := by
  intro pins s σ H xs us Q I r h
  obtain ⟨x, F, p, res, rfl, e, hp, hr, k⟩ := h
  cases p with
  | int i =>
    cases Option.some.inj hr
    cases hp.int
    exact call_abs pins s σ H _ us Q I r ⟨_, rfl, k _ _ (.old (.int _))⟩
  | _ => cases hr
theorem cu_max (hc : X.calm = true) : CallR X (.builtin "max") (rU X.K .maxl) := by
  intro pins s σ H xs us Q I r h
  obtain ⟨x, F, p, res, rfl, e, hp, hr, k⟩ := h
  cases p with
  | list zs =>
    simp only [un1, Option.map_eq_some_iff, Option.bind_eq_some_iff] at hr
    obtain ⟨g, ⟨ns, h1, h2⟩, rfl⟩ := hr
    have e1 := ints_eq h1
    subst e1
    obtain ⟨a, vs, rfl, t, q⟩ := hp
    cases dqa_ints q
    obtain ⟨g1, g2⟩ := greatest_of h2
    refine cr_max hc pins s σ H _ us Q I r ⟨_, ns, rfl, SqL.of t, List.length_pos_of_mem g1, fun m hm hle => ?_⟩
    have : m = g := Int.le_antisymm (g2 m hm) (hle g g1)
    rw [this]
    exact k _ _ (.old (.int _))
  | _ => cases hr
theorem cu_min (hc : X.calm = true) : CallR X (.builtin "min") (rU X.K .minl) := by
  intro pins s σ H xs us Q I r h
  obtain ⟨x, F, p, res, rfl, e, hp, hr, k⟩ := h
  cases p with
  | list zs =>
    simp only [un1, Option.map_eq_some_iff, Option.bind_eq_some_iff] at hr
    obtain ⟨g, ⟨ns, h1, h2⟩, rfl⟩ := hr
    have e1 := ints_eq h1
    subst e1
    obtain ⟨a, vs, rfl, t, q⟩ := hp
    cases dqa_ints q
    obtain ⟨g1, g2⟩ := least_of h2
    refine cr_min hc pins s σ H _ us Q I r ⟨_, ns, rfl, SqL.of t, List.length_pos_of_mem g1, fun m hm hle => ?_⟩
    have : m = g := Int.le_antisymm (hle g g1) (g2 m hm)
    rw [this]
    exact k _ _ (.old (.int _))
  | _ => cases hr
theorem cu_sum (hc : X.calm = true) : CallR X (.builtin "sum") (rU X.K .sum) := by
  intro pins s σ H xs us Q I r h
  obtain ⟨x, F, p, res, rfl, e, hp, hr, k⟩ := h
  cases p with
  | list zs =>
    simp only [un1, Option.map_eq_some_iff] at hr
    obtain ⟨ns, h1, rfl⟩ := hr
    have e1 := ints_eq h1
    subst e1
    obtain ⟨a, vs, rfl, t, q⟩ := hp
    cases dqa_ints q
    exact cr_sum hc pins s σ H _ us Q I r ⟨_, ns, rfl, SqL.of t, k _ _ (.old (.int _))⟩
  | _ => cases hr
theorem cu_any (hc : X.calm = true) : CallR X (.builtin "any") (rU X.K .any) := by
  intro pins s σ H xs us Q I r h
  obtain ⟨x, F, p, res, rfl, e, hp, hr, k⟩ := h
  cases p with
  | list zs =>
    simp only [un1, Option.map_eq_some_iff] at hr
    obtain ⟨ns, h1, rfl⟩ := hr
    have e1 := bls_eq h1
    subst e1
    obtain ⟨a, vs, rfl, t, q⟩ := hp
    cases dqa_bls q
    exact cr_any hc pins s σ H _ us Q I r ⟨_, ns, rfl, SqL.of t, k _ _ (.old (.bl _))⟩
  | _ => cases hr
theorem cu_all (hc : X.calm = true) : CallR X (.builtin "all") (rU X.K .all) := by
  intro pins s σ H xs us Q I r h
  obtain ⟨x, F, p, res, rfl, e, hp, hr, k⟩ := h
  cases p with
  | list zs =>
    simp only [un1, Option.map_eq_some_iff] at hr
    obtain ⟨ns, h1, rfl⟩ := hr
    have e1 := bls_eq h1
    subst e1
    obtain ⟨a, vs, rfl, t, q⟩ := hp
    cases dqa_bls q
    exact cr_all hc pins s σ H _ us Q I r ⟨_, ns, rfl, SqL.of t, k _ _ (.old (.bl _))⟩
  | _ => cases hr
theorem cu_sorted : CallR X (.builtin "sorted") (rU X.K .sorted) := by
  intro pins s σ H xs us Q I r h
  obtain ⟨x, F, p, res, rfl, e, hp, hr, k⟩ := h
  cases p with
  | list zs =>
    simp only [un1, Option.map_eq_some_iff] at hr
    obtain ⟨ns, h1, rfl⟩ := hr
    have e1 := ints_eq h1
    subst e1
    obtain ⟨a, vs, rfl, t, q⟩ := hp
    cases dqa_ints q
    refine cr_sortedI pins s σ H _ us Q I r ⟨_, ns, rfl, SqL.of t, fun ns' p hperm hs hp => ?_⟩
    have : ns' = sortI ns := PySem.W.ksm_same (hperm.trans (sortI_perm ns).symm) hs (sortI_sorted ns)
    rw [this]
    exact k _ _ (.lst hp dqa_of_ints)
  | _ => cases hr
theorem cu_list : CallR X (.type "list") (rU X.K .list) := by
  intro pins s σ H xs us Q I r h
  obtain ⟨x, F, p, res, rfl, e, hp, hr, k⟩ := h
  cases p with
  | list zs =>
    cases Option.some.inj hr
    obtain ⟨a, vs, rfl, t, q⟩ := hp
    exact call_list_of pins s σ H _ us Q I r ⟨_, _, rfl, .inl (SqL.of t), fun l hl => k _ _ (.lst hl q)⟩
  | tuple zs =>
    cases Option.some.inj hr
    obtain ⟨a, vs, rfl, _, t, q⟩ := hp.tup e
    exact call_list_of pins s σ H _ us Q I r ⟨_, _, rfl, .inr t, fun l hl => k _ _ (.lst hl q)⟩
  | _ => cases hr
theorem cu_tuple : CallR X (.type "tuple") (rU X.K .tuple) := by
  intro pins s σ H xs us Q I r h
  obtain ⟨x, F, p, res, rfl, e, hp, hr, k⟩ := h
  cases p with
  | list zs =>
    cases Option.some.inj hr
    obtain ⟨a, vs, rfl, t, q⟩ := hp
    exact call_tuple_of pins s σ H _ us Q I r ⟨_, _, rfl, .inl ⟨SqL.of t, fun l hl => k _ _ (.tup hl q)⟩⟩
  | tuple zs =>
    cases Option.some.inj hr
    obtain ⟨a, vs, rfl, f, t, q⟩ := hp.tup e
    exact call_tuple_of pins s σ H _ us Q I r ⟨_, _, rfl, .inr ⟨t, k _ _ (.old (.tup f q))⟩⟩
  | _ => cases hr
theorem cu_int : CallR X (.type "int") (rU X.K .int) := by
  intro pins s σ H xs us Q I r h
  obtain ⟨x, F, p, res, rfl, e, hp, hr, k⟩ := h
  cases p with
  | int i =>
    cases Option.some.inj hr
    cases hp.int
    exact call_int1 pins s σ H _ us Q I r (.inl ⟨_, rfl, k _ _ (.old (.int _))⟩)
  | bool i =>
    cases Option.some.inj hr
    cases hp.bl
    exact call_int1 pins s σ H _ us Q I r (.inr ⟨_, rfl, k _ _ (.old (.int _))⟩)
  | _ => cases hr
theorem cu_str : CallR X (.type "str") (rU X.K .str) := by
  intro pins s σ H xs us Q I r h
  obtain ⟨x, F, p, res, rfl, e, hp, hr, k⟩ := h
  cases p with
  | int i =>
    obtain ⟨c, hr⟩ := ite_some hr
    cases hr
    cases hp.int
    exact call_str_int pins s σ H _ us Q I r ⟨_, rfl, c, k _ _ (.old (.str _))⟩
  | _ => cases hr
theorem un_negR : UnR X (unaryOp .USub) (fun x H Q => rU X.K .neg [x] H Q) := by
  intro pins s σ H x v Q I r h
  obtain ⟨x, F, p, res, e0, e, hp, hr, k⟩ := h
  cases e0
  cases p with
  | int i =>
    cases Option.some.inj hr
    cases hp.int
    exact un_neg pins s σ H _ v Q I r ⟨_, rfl, k _ _ (.old (.int _))⟩
  | _ => cases hr
/-- repr, where nothing is being shown -/
theorem cu_repr (hg : X.A.guards = some []) (hu : X.A.units + 70 < cLine) : CallR X (.builtin "repr") (rU X.K .repr) := by
  intro pins s σ H xs us Q I r h
  obtain ⟨x, F, p, res, rfl, e, hp, hr, k⟩ := h
  unfold un1 at hr
  simp only at hr
  obtain ⟨c, hr⟩ := ite_some hr
  cases hr
  unfold showOk at c
  simp only [Bool.and_eq_true, decide_eq_true_eq, Bool.not_eq_true'] at c
  obtain ⟨⟨⟨c1, c2⟩, c3⟩, c4⟩ := c
  have fin : ∀ (t : Tok) (s' : Shared), Inv X pins σ H s' → EP X pins σ Q (.str p.shown t) s' := fun t s' I' => ⟨.str _, H, I', ⟨t, rfl⟩, k _ _ (.old (.str _))⟩
  obtain ⟨u, rfl, ru⟩ := vals1 r
  have seqc : ∀ a : Addr, u = .ref a → wpAny (model X.prog X.w) X.A (PySem.call (.builtin "repr") [u]) (EP X pins σ Q) X.xe s := fun a ea => by
    subst ea
    obtain ⟨as, rr⟩ := Dp.reads I p x _ (dq_dp _ _ (hp.dp e)) ru
    exact PySem.repr_of_reads' rr c1 (fun z => by rw [c2] at z; cases z) hg (by omega) (fun _ _ z => z) (fun h' u' tk hk => fin u' _ (I.kept (t' := tk) hk)) (by rw [sizeL]; exact c4)
  cases p with
  | none =>
    cases (show Dq X.K F x .none from hp)
    cases ru
    exact PySem.P.repr_of_none (fin _ _ (I.tok _))
  | bool b =>
    cases hp.bl
    cases ru
    refine PySem.P.repr_of_bool ?_
    have := fin s.toks { s with toks := s.toks + 1 } (I.tok _)
    unfold PyData.shown at this
    exact this
  | int i =>
    cases hp.int
    obtain ⟨t, rfl⟩ := ru
    refine PySem.P.repr_of_int (by unfold PyData.showable at c1; exact of_decide_eq_true c1) ?_
    have := fin s.toks { s with toks := s.toks + 1 } (I.tok _)
    unfold PyData.shown at this
    exact this
  | str z =>
    cases hp.str
    obtain ⟨t, rfl⟩ := ru
    refine PySem.P.repr_of_str ?_ (by unfold PyData.shown at c4; rw [sizeL]; exact c4)
    have := fin s.toks { s with toks := s.toks + 1 } (I.tok _)
    unfold PyData.shown at this
    exact this
  | list zs =>
    obtain ⟨a, vs, rfl, _⟩ := id hp
    exact seqc a ru
  | tuple zs =>
    obtain ⟨a, vs, rfl, _⟩ := hp.tup e
    exact seqc a ru
  | dict z => cases (show Dq X.K F x (.dict z) from hp)
theorem tyX_of {K : PySem.W.Frag} {F H : Hp} {x : V} {p : PyData} {t : String} (e : Same F H) (h : Rv K F H x p) (ht : tyOf p = some t) : TyX K H x (.type t) := by
  cases p with
  | none => cases ht; cases (show Dq K F x .none from h); exact .base .non
  | bool b => cases ht; cases h.bl; exact .base (.bl _)
  | int b => cases ht; cases h.int; exact .base (.int _)
  | str b => cases ht; cases h.str; exact .base (.str _)
  | list b => cases ht; obtain ⟨_, _, rfl, q, _⟩ := h; exact .base (.lst q)
  | tuple b =>
    cases ht
    obtain ⟨a, vs, rfl, _, t, _⟩ := h.tup e
    rcases t with (t | ⟨o, t⟩) | ⟨o, its, n, q1, q2, _⟩
    · exact .base (.tup t)
    · exact .fTuple t
    · exact .kTuple q1 q2
  | dict b => cases ht
/-- isinstance(x, T) -/
theorem cu_isT (T : String) : CallR X (.builtin "isinstance") (fun xs H Q => ∃ x, xs = [x, .ty T] ∧ rU X.K (.isT T) [x] H Q) := by
  intro pins s σ H xs us Q I r h
  obtain ⟨x, rfl, x', F, p, res, e0, e, hp, hr, k⟩ := h
  cases e0
  simp only [un1, Option.bind_eq_some_iff, Option.map_eq_some_iff] at hr
  obtain ⟨t, h1, b, h2, rfl⟩ := hr
  exact call_isi pins s σ H _ us Q I r ⟨_, _, _, _, b, rfl, .ty T, tyX_of e hp h1, kit_ty h2, k _ _ (.old (.bl _))⟩
theorem cu_max2 (hc : X.calm = true) : CallR X (.builtin "max") (rU2 X.K .max) := by
  intro pins s σ H xs us Q I r h
  obtain ⟨x, y, F, p, q, res, rfl, e, hp, hq, hr, k⟩ := h
  cases p with
  | int i =>
    cases q with
    | int j =>
      cases Option.some.inj hr
      cases hp.int
      cases hq.int
      exact call_max2 hc pins s σ H _ us Q I r ⟨_, _, rfl, k _ _ (.old (.int _))⟩
    | _ => cases hr
  | _ => cases q <;> cases hr
theorem cu_min2 (hc : X.calm = true) : CallR X (.builtin "min") (rU2 X.K .min) := by
  intro pins s σ H xs us Q I r h
  obtain ⟨x, y, F, p, q, res, rfl, e, hp, hq, hr, k⟩ := h
  cases p with
  | int i =>
    cases q with
    | int j =>
      cases Option.some.inj hr
      cases hp.int
      cases hq.int
      exact call_min2 hc pins s σ H _ us Q I r ⟨_, _, rfl, k _ _ (.old (.int _))⟩
    | _ => cases hr
  | _ => cases q <;> cases hr
theorem cu_gcd (hc : X.calm = true) : CallR X (.builtin "math.gcd") (rU2 X.K .gcd) := by
  intro pins s σ H xs us Q I r h
  obtain ⟨x, y, F, p, q, res, rfl, e, hp, hq, hr, k⟩ := h
  cases p with
  | int i =>
    cases q with
    | int j =>
      cases Option.some.inj hr
      cases hp.int
      cases hq.int
      exact cr_gcd pins s σ H _ us Q I r ⟨_, _, rfl, k _ _ (.old (.int _))⟩
    | _ => cases hr
  | _ => cases q <;> cases hr
theorem op_ix : IxR X (fun x y H Q => ∃ F p q r, Same F H ∧ Rv X.K F H x p ∧ Rv X.K F H y q ∧ ix2 p q = some r ∧ ∀ v H', Mk X.K F H r v H' → Q v H') := by
  intro value slice pins s σ H x y v u Q I rx ry h hs
  obtain ⟨F, p, q, r, e, hp, hq, hr, k⟩ := h
  have at_ : ∀ {vs : List V} {ds : List PyData} {i : Int} {d : PyData}, DqAll X.K F vs ds → atD ds i = some d → ∃ w, atI vs i = some w ∧ Dq X.K F w d := fun {vs ds i d} q1 h1 => by
    unfold atD atI at h1
    rw [Option.bind_eq_some_iff] at h1
    obtain ⟨j, h2, h3⟩ := h1
    obtain ⟨w, h4, h5⟩ := dpa_get q1 h3
    refine ⟨w, ?_, h5⟩
    unfold atI
    rw [dpa_len q1, h2]
    exact h4
  cases p with
  | list zs =>
    cases q with
    | int i =>
      simp only [ix2, Option.map_eq_some_iff] at hr
      obtain ⟨d, h1, rfl⟩ := hr
      obtain ⟨a, vs, rfl, t, q1⟩ := hp
      cases hq.int
      obtain ⟨w, h2, h3⟩ := at_ q1 h1
      exact ix_list value slice pins s σ H _ _ v u Q I rx ry ⟨_, _, _, _, rfl, rfl, SqL.of t, h2, k _ _ (.old h3)⟩ hs
    | _ => cases hr
  | tuple zs =>
    cases q with
    | int i =>
      simp only [ix2, Option.map_eq_some_iff] at hr
      obtain ⟨d, h1, rfl⟩ := hr
      obtain ⟨a, vs, rfl, _, t, q1⟩ := hp.tup e
      cases hq.int
      obtain ⟨w, h2, h3⟩ := at_ q1 h1
      exact ix_tup value slice pins s σ H _ _ v u Q I rx ry ⟨_, _, _, _, rfl, rfl, t, h2, k _ _ (.old h3)⟩ hs
    | _ => cases hr
  | _ => cases q <;> cases hr
def rS (K : PySem.W.Frag) : V → Option Int → Option Int → Hp → VK → Prop := fun x lo hi H Q => ∃ F p r, Same F H ∧ Rv K F H x p ∧ sl3 lo hi p = some r ∧ ∀ v H', Mk K F H r v H' → Q v H'
theorem op_sl : SlR X (rS X.K) := by
  intro pins s σ H x v vl vu lo hi sl Q I rx hs pl pu h
  obtain ⟨F, p, r, e, hp, hr, k⟩ := h
  cases p with
  | list zs =>
    cases Option.some.inj hr
    obtain ⟨a, vs, rfl, t, q1⟩ := hp
    refine sl_list pins s σ H _ v vl vu lo hi sl Q I rx hs pl pu ⟨_, _, rfl, SqL.of t, fun p hp => k _ _ (.lst hp ?_)⟩
    unfold cutD cutV
    rw [dpa_len q1]
    exact dpa_take _ (dpa_drop _ q1)
  | tuple zs =>
    cases Option.some.inj hr
    obtain ⟨a, vs, rfl, f, t, q1⟩ := hp.tup e
    refine sl_tupA pins s σ H _ v vl vu lo hi sl Q I rx hs pl pu ⟨_, _, rfl, t, fun z => k _ _ (.old ?_), fun z p hp => k _ _ (.tup hp ?_)⟩
    · have : cutD zs lo hi = zs := by
        unfold cutD
        rw [← dpa_len q1, z.1, z.2, List.drop_zero, Nat.sub_zero, dpa_len q1, List.take_length]
      rw [this]
      exact .tup f q1
    · unfold cutD cutV
      rw [dpa_len q1]
      exact dpa_take _ (dpa_drop _ q1)
  | _ => cases hr
theorem op_join : MtR X "str.join" (fun x xs H Q => ∃ y, xs = [y] ∧ rU2 X.K .join [x, y] H Q) := by
  intro pins s σ H x xs v us Q I rx rs h
  obtain ⟨y, rfl, x', y', F, p, q, res, e0, e, hp, hq, hr, k⟩ := h
  cases e0
  cases p with
  | str a =>
    cases q with
    | list zs =>
      simp only [un2, Option.bind_eq_some_iff] at hr
      obtain ⟨ys, h1, h2⟩ := hr
      obtain ⟨c, h2⟩ := ite_some h2
      cases h2
      have e1 := strs_eq h1
      subst e1
      cases hp.str
      obtain ⟨b, vs, rfl, t, q1⟩ := hq
      cases dqa_strs q1
      exact mt_join pins s σ H _ _ v us Q I rx rs ⟨_, _, ys, rfl, rfl, .inl (SqL.of t), c, k _ _ (.old (.str _))⟩
    | _ => cases hr
  | _ => cases q <;> cases hr
end
end Xp

/-! E5: which piece of the text is which piece of the small language. -/
namespace Xp
open PySem PySem.Spec PyProof.Rows L2

structure Lk where
  fn : List Str
  gl : List Str
  gc : Bool
def visB (sc : Scope) (x : Str) : Bool := match sc.names.lookup x with
  | some .local => true
  | some .cell => true
  | some .free => true
  | _ => false
def glB (sc : Scope) (x : Str) : Bool := match sc.names.lookup x with
  | some .globalImplicit => true
  | _ => false
def okV (N : List Str) (sc : Scope) (i : Nat) (x : Str) : Bool := decide (N[i]? = some x) && visB sc x && !(x == ("__debug__" : Str)) && !(x == ("__classdict__" : Str))
def okG (sc : Scope) (x : Str) : Bool := glB sc x && !(x == ("__debug__" : Str))
def tgv : Tg → List Nat
  | .v i => [i]
  | .nil => []
  | .cons t r => tgv t ++ tgv r
def notStar : Expr → Bool
  | .Starred .. => false
  | _ => true
def notSlice : Expr → Bool
  | .Slice .. => false
  | _ => true
def isConst : Expr → Bool
  | .Constant .. => true
  | _ => false
/-- the built-in names that are used -/
def bnames : List Str := ["len", "abs", "max", "min", "sum", "any", "all", "sorted", "set", "list", "tuple", "int", "str", "repr", "isinstance", "bool", "range", "enumerate", "zip"]
def u1name : U1 → Str
  | .neg => "" | .len => "len" | .abs => "abs" | .maxl => "max" | .minl => "min" | .sum => "sum" | .any => "any" | .all => "all" | .sorted => "sorted" | .setsorted => "" | .list => "list" | .tuple => "tuple"
  | .int => "int" | .str => "str" | .repr => "repr" | .isT _ => ""
def tynames : List String := ["int", "bool", "str", "tuple", "list"]
def boE : Bo → Operator → Bool
  | .add, .Add => true | .sub, .Sub => true | .mul, .Mult => true | .fdiv, .FloorDiv => true | .mod, .Mod => true | .pow, .Pow => true
  | _, _ => false
def coE : Co → CmpOp → Bool
  | .eq, .Eq => true | .ne, .NotEq => true | .lt, .Lt => true | .le, .LtE => true | .gt, .Gt => true | .ge, .GtE => true | .isn, .Is => true | .notn, .IsNot => true | .isb, .Is => true | .notb, .IsNot => true
  | .isin, .In => true | .notin, .NotIn => true
  | _, _ => false
theorem boE_eq {o : Bo} {p : Operator} (h : boE o p = true) : p = boO o := by cases o <;> cases p <;> first | rfl | cases h
theorem coE_eq {o : Co} {p : CmpOp} (h : coE o p = true) : p = coO o := by cases o <;> cases p <;> first | rfl | cases h

section
variable (N : List Str) (L : Lk)
def chkV (i : Nat) (sc : Scope) (e : Expr) : Bool := match e with
  | .Name x _ => decide (N[i]? = some x) && (match sc.names.lookup x with | some .local => true | some .cell => true | _ => false)
  | _ => false
def chkTs : Tg → Scope → List Expr → Bool
  | .nil, _, es => es.isEmpty
  | .cons t r, sc, es => (match es with
    | e :: es => (match t with
      | .v i => chkV N i sc e
      | t => (match e with | .Tuple l _ _ => chkTs t sc l | _ => false)) && chkTs r sc es && notStar e
    | [] => false)
  | .v _, _, _ => false
def chkT (tg : Tg) (sc : Scope) (e : Expr) : Bool := match tg with
  | .v i => chkV N i sc e
  | t => (match e with | .Tuple l _ _ => chkTs N t sc l | _ => false)
theorem chkTs_cons (t r : Tg) (sc : Scope) (e : Expr) (es : List Expr) : chkTs N (.cons t r) sc (e :: es) = (chkT N t sc e && chkTs N r sc es && notStar e) := by
  cases t <;> rfl
mutual
def chk : Ex → Scope → Expr → Bool
  | .int i, _, e => (match e with | .Constant (.int j) _ _ => decide (i = j) | _ => false)
  | .bl b, _, e => (match e with | .Constant (.bool c) _ _ => b == c | _ => false)
  | .non, _, e => (match e with | .Constant .none _ _ => true | _ => false)
  | .str x, _, e => (match e with | .Constant (.str y) _ _ => decide (x = y) | _ => false)
  | .var i, sc, e => (match e with | .Name x _ => okV N sc i x | _ => false)
  | .vb i, sc, e => (match e with | .Name x _ => okV N sc i x | _ => false)
  | .vm i, sc, e => (match e with | .Name x _ => okV N sc i x | _ => false)
  | .glb g, sc, e => (match e with | .Name x _ => okG sc x && decide (L.gl[g]? = some x) | _ => false)
  | .fnv f, sc, e => (match e with | .Name x _ => okG sc x && decide (L.fn[f]? = some x) | _ => false)
  | .scr a, sc, e => (match e with | .Call (.Name x _) [y] [] _ => decide (x = ("list" : Str)) && okG sc x && chk a sc y && notStar y | _ => false)
  | .tup es, sc, e => (match e with | .Tuple l _ _ => chks es sc l && decide (l.length ≤ 1000) | _ => false)
  | .lst es, sc, e => (match e with | .List l _ => chks es sc l && decide (l.length ≤ 1000) | _ => false)
  | .bin o a b, sc, e => (match e with | .BinOp x p y _ => boE o p && chk a sc x && chk b sc y | _ => false)
  | .cmp o a b, sc, e => (match e with | .Compare x [p] [y] _ => coE o p && chk a sc x && chk b sc y && !behindInMarks p y | _ => false)
  | .cmp2 o o2 a b c, sc, e => (match e with | .Compare x [p, p2] [y, z] _ => coE o p && coE o2 p2 && chk a sc x && chk b sc y && chk c sc z && !behindInMarks p2 z | _ => false)
  | .and a b, sc, e => (match e with | .BoolOp .And (x :: y :: r) pos => chk a sc x && (match r with | [] => chk b sc y | z :: r => chk b sc (.BoolOp .And (y :: z :: r) pos)) | _ => false)
  | .or a b, sc, e => (match e with | .BoolOp .Or (x :: y :: r) pos => chk a sc x && (match r with | [] => chk b sc y | z :: r => chk b sc (.BoolOp .Or (y :: z :: r) pos)) | _ => false)
  | .not a, sc, e => (match e with | .UnaryOp .Not x _ => chk a sc x | _ => false)
  | .ite c a b, sc, e => (match e with | .IfExp z x y _ => chk c sc z && chk a sc x && chk b sc y | _ => false)
  | .cal f es, sc, e => (match e with | .Call (.Name x _) (y :: l) [] _ => okG sc x && decide (L.fn[f]? = some x) && chks es sc (y :: l) | .Call (.Name x _) [] [] _ => okG sc x && decide (L.fn[f]? = some x) && (match es with | .nil => true | _ => false) | _ => false)
  | .cav i es, sc, e => (match e with | .Call (.Name x _) (y :: l) [] _ => okV N sc i x && chks es sc (y :: l) | _ => false)
  | .u1 .neg a, sc, e => (match e with | .UnaryOp .USub x _ => chk a sc x | _ => false)
  | .u1 (.isT T) a, sc, e => (match e with
    | .Call (.Name f _) [x, .Name t _] [] _ => decide (f = ("isinstance" : Str)) && okG sc f && chk a sc x && notStar x && decide (t = Str.ofString T) && okG sc t && tynames.contains T
    | _ => false)
  | .u1 f a, sc, e => (match e with | .Call (.Name x _) [y] [] _ => decide (x = u1name f) && !decide (x = "") && okG sc x && chk a sc y && notStar y | _ => false)
  | .u2 .join a b, sc, e => (match e with | .Call (.Attribute o n apos) [y] [] pos => decide (n = ("join" : Str)) && isConst o && chk a sc o && chk b sc y && notStar y && apos.endLine == pos.line | _ => false)
  | .u2 .count _ _, _, _ => false
  | .u2 .max a b, sc, e => (match e with | .Call (.Name f _) [x, y] [] _ => decide (f = ("max" : Str)) && okG sc f && chk a sc x && chk b sc y && notStar x && notStar y | _ => false)
  | .u2 .min a b, sc, e => (match e with | .Call (.Name f _) [x, y] [] _ => decide (f = ("min" : Str)) && okG sc f && chk a sc x && chk b sc y && notStar x && notStar y | _ => false)
  | .u2 .gcd a b, sc, e => (match e with | .Call (.Name f _) [x, y] [] _ => L.gc && decide (f = ("gcd" : Str)) && okG sc f && chk a sc x && chk b sc y && notStar x && notStar y | _ => false)
  | .ix a b, sc, e => (match e with | .Subscript x y _ => chk a sc x && chk b sc y && notSlice y | _ => false)
  | .sl a lo hi, sc, e => (match e with | .Subscript x (.Slice l h none _) _ => chk a sc x && (match lo with | .nopart => l.isNone | _ => (match l with | some z => chk lo sc z | none => false)) && (match hi with | .nopart => h.isNone | _ => (match h with | some z => chk hi sc z | none => false)) | _ => false)
  | .nopart, _, _ => false
  | .lc own tg it c e, sc, x => (match x with
    | .ListComp elt [⟨t, i, ifs, 0⟩] scope _ =>
      blkC N sc scope (own.map fun j => (N.getD j "", j)) && (tgv tg).all (own.contains ·) && chkI it sc t i && chkT N tg scope t && (match ifs with | [] => (match c with | .bl true => true | _ => false) | [f] => chk c (relS scope sc) f | _ => false) && chk e (relS scope sc) elt
    | _ => false)
  | .lc2 _ _ _ _ _ _ _, _, _ => false
def chks : Exs → Scope → List Expr → Bool
  | .nil, _, l => l.isEmpty
  | .cons e es, sc, l => (match l with
    | x :: r => chk e sc x && chks es sc r && notStar x
    | [] => false)
def chkI : It → Scope → Expr → Expr → Bool
  | .seq a, sc, _, e => chk a sc e && (match e with | .Set .. => false | _ => true)
  | .rng1 a, sc, _, e => (match e with | .Call (.Name f _) [x] [] _ => decide (f = ("range" : Str)) && okG sc f && chk a sc x && notStar x | _ => false)
  | .rng2 a b, sc, _, e => (match e with | .Call (.Name f _) [x, y] [] _ => decide (f = ("range" : Str)) && okG sc f && chk a sc x && chk b sc y && notStar x && notStar y | _ => false)
  | .rng3 _ _ _, _, _, _ => false
  | .enum a, sc, t, e => (match t, e with | .Tuple .., .Call (.Name f _) [x] [] _ => decide (f = ("enumerate" : Str)) && okG sc f && chk a sc x && notStar x | _, _ => false)
  | .zip a b, sc, t, e => (match t, e with | .Tuple .., .Call (.Name f _) [x, y] [] _ => decide (f = ("zip" : Str)) && okG sc f && chk a sc x && chk b sc y && notStar x && notStar y | _, _ => false)
end
def chkp (x : Ex) (sc : Scope) (o : Option Expr) : Bool := match x with
  | .nopart => o.isNone
  | _ => (match o with | some z => chk N L x sc z | none => false)
end

/-! ### readings -/
/-- what all the code runs under -/
structure Gd where
  K : PySem.W.Frag
  fa : Nat → Option Addr
  N : List Str
  L : Lk
  G : List PyData
  cal : Nat → List W → List Cell → Option (R × List Cell)
  wf : Nat
inductive RWs (K : PySem.W.Frag) (fa : Nat → Option Addr) (F : Hp) (ι : List Addr) : List V → List W → Prop
  | nil : RWs K fa F ι [] []
  | cons {v : V} {vs : List V} {w : W} {ws : List W} : RW K fa F ι v w → RWs K fa F ι vs ws → RWs K fa F ι (v :: vs) (w :: ws)
theorem RWs.mono {K : PySem.W.Frag} {fa : Nat → Option Addr} {F F' H H' : Hp} {ι ι' : List Addr} (x : Stp F ι H F' ι' H') : ∀ {vs : List V} {ws : List W}, RWs K fa F ι vs ws → RWs K fa F' ι' vs ws
  | _, _, .nil => .nil
  | _, _, .cons q r => .cons (q.mono x) (RWs.mono x r)
theorem RWs.len {K : PySem.W.Frag} {fa : Nat → Option Addr} {F : Hp} {ι : List Addr} : ∀ {vs : List V} {ws : List W}, RWs K fa F ι vs ws → vs.length = ws.length
  | _, _, .nil => rfl
  | _, _, .cons q r => congrArg (· + 1) (RWs.len r)
/-- the shared lists -/
structure Cs (K : PySem.W.Frag) (F : Hp) (ι : List Addr) (H : Hp) (c0 : List Cell) : Prop where
  st : ∀ (n : Nat) (xs : List PyData), c0[n]? = some xs → ∃ (a : Addr) (vs : List V), ι[n]? = some a ∧ H a = some (.lst vs) ∧ DqAll K F vs xs
  nfz : ∀ a ∈ ι, F a = none ∧ H a ≠ none
  stl : c0.length = ι.length
  nd : ι.Nodup
theorem Stt.cs {K : PySem.W.Frag} {fa : Nat → Option Addr} {E : Ent} {F H : Hp} {ι : List Addr} {s : S} {σ : L2.St} (S0 : Stt K fa E F ι s σ H) : Cs K F ι H s.st := ⟨S0.st, S0.nfz, S0.stl, S0.nd⟩
/-- behind a call -/
structure Cd (K : PySem.W.Frag) (fa : Nat → Option Addr) (F : Hp) (ι : List Addr) (H F' : Hp) (ι' : List Addr) (H' : Hp) (st' : List Cell) (v : V) (r : R) : Prop where
  step : Stp F ι H F' ι' H'
  sub : Same F' H'
  nofz : ∀ b o, F' b = some o → F b = some o ∨ H b = none
  cs : Cs K F' ι' H' st'
  rr : RR K fa F' ι' H' v r
  fre : ∀ (xs : List PyData) (a : Addr), r = .own xs → v = .ref a → H a = none
  nb : ∀ xs, r ≠ .bor xs
/-- the promise of the def number f -/
def spF (g : Gd) (f : Nat) : Sp := fun vs H Q _ => ∃ F ι st ws, Same F H ∧ Cs g.K F ι H st ∧ RWs g.K g.fa F ι vs ws ∧ ∃ r st', g.cal f ws st = some (r, st') ∧ ∀ v F' ι' H', Cd g.K g.fa F ι H F' ι' H' st' v r → Q v H'
structure XOk (g : Gd) (X : Cx) (sc : Scope) : Prop where
  eK : X.K = g.K
  calm : X.calm = true
  eN : X.N = g.N
  nd : X.N.Nodup
  sc : X.env.scope = sc
  room : X.A.units + 100 < cLine
  grd : X.A.guards = some []
  fns : ∀ (f : Nat) (x : Str), g.L.fn[f]? = some x → ∃ a, g.fa f = some a ∧ X.mg x = some (.ref a) ∧ PySem.W.keepIn X.K (.ref a) = true
  fcl : ∀ f a, g.fa f = some a → PySem.W.keepIn X.K (.ref a) = true ∧ ∀ Y : Cx, Y.prog = X.prog → Y.w = X.w → Y.K = X.K → Y.mg = X.mg → Y.base = X.base → Y.A = X.A → CallR Y (.ref a) (fun vs H Q => spF g f vs H Q fun _ _ _ => False)
  gls : ∀ (i : Nat) (x : Str), g.L.gl[i]? = some x → ∃ (u : Value) (v : V) (d : PyData), X.mg x = some u ∧ RelV v u ∧ g.G[i]? = some d ∧ ∀ F, Dq X.K F v d
  blt : ∀ x ∈ bnames, X.mg x = none
  xe : X.xe = fun _ _ => False
  gcd : g.L.gc = true → X.mg "gcd" = some (.builtin "math.gcd")

section
variable (g : Gd)
def tE (x : Ex) : TE := fun σ H Q => ∃ E F ι s, Stt g.K g.fa E F ι s σ H ∧ ∃ r s', ev g.cal g.G x s = some (r, s') ∧ ∀ v F' ι' H', Stt g.K g.fa E F' ι' s' σ H' → Stp F ι H F' ι' H' → RR g.K g.fa F' ι' H' v r → Fre E s' σ v r → Q v H'
def tT (x : Ex) : TT := fun σ H Q => ∃ E F ι s, Stt g.K g.fa E F ι s σ H ∧ ∃ r s' b, ev g.cal g.G x s = some (r, s') ∧ asB s'.st r = some b ∧ ∀ F' ι' H', Stt g.K g.fa E F' ι' s' σ H' → Stp F ι H F' ι' H' → Q b H'
def tAs (es : Exs) : TA := fun σ H Q => ∃ E F ι s, Stt g.K g.fa E F ι s σ H ∧ ∃ ws s', evs g.cal g.G es s = some (ws, s') ∧ ∀ vs F' ι' H', Stt g.K g.fa E F' ι' s' σ H' → Stp F ι H F' ι' H' → RWs g.K g.fa F' ι' vs ws → Q vs H'
def tPa (x : Ex) : TO := fun σ H Q => ∃ E F ι s, Stt g.K g.fa E F ι s σ H ∧ ∃ o s', evp g.cal g.G x s = some (o, s') ∧ ∀ F' ι' H', Stt g.K g.fa E F' ι' s' σ H' → Stp F ι H F' ι' H' → Q o H'
def ItOk (K : PySem.W.Frag) (F : Hp) (J : L2.It) (xs : List PyData) : Prop := ∀ H, Same F H → (∀ i x, xs[i]? = some x → J.go i H ∧ ∀ v H', J.yld i H v H' → Mk K F H (.w (.d x)) v H') ∧ J.stop xs.length H
def tI (it : It) : TI := fun σ H P => ∃ E F ι s, Stt g.K g.fa E F ι s σ H ∧ ∃ xs s', evi g.cal g.G it s = some (xs, s') ∧ ∀ J F' ι' H', Stt g.K g.fa E F' ι' s' σ H' → Stp F ι H F' ι' H' → ItOk g.K F' J xs → P J H'
def gT (tg : Tg) : TG := fun v σ H Q => ∃ E F ι s x, Stt g.K g.fa E F ι s σ H ∧ Dq g.K F v x ∧ ∃ l, bindT tg x s.sl = some l ∧ ∀ σ', Stt g.K g.fa E F ι ⟨l, s.st⟩ σ' H → (∀ ws, (∀ i ∈ tgv tg, i ∈ ws) → L2.wipe σ' ws = L2.wipe σ ws) → Q σ' H
def gTs (tg : Tg) : TGs := fun vs σ H Q => ∃ E F ι s xs, Stt g.K g.fa E F ι s σ H ∧ DqAll g.K F vs xs ∧ ∃ l, bindT tg (.tuple xs) s.sl = some l ∧ ∀ σ', Stt g.K g.fa E F ι ⟨l, s.st⟩ σ' H → (∀ ws, (∀ i ∈ tgv tg, i ∈ ws) → L2.wipe σ' ws = L2.wipe σ ws) → Q σ' H
end
end Xp

/-! E6: the expressions run as they are read. -/
namespace Xp
open PySem PySem.Spec PyProof.Rows L2

section
variable {X : Cx} {e : Expr} {t t2 : TE}
theorem PE.weak (h : PE X e t) (w : ∀ σ H Q, t2 σ H Q → t σ H Q) : PE X e t2 := ⟨fun pins s σ H Q I q => h.run pins s σ H Q I (w σ H Q q)⟩
theorem PT.weak {t t2 : TT} (h : PT X e t) (w : ∀ σ H Q, t2 σ H Q → t σ H Q) : PT X e t2 := ⟨fun pins s σ H Q I q => h.run pins s σ H Q I (w σ H Q q)⟩
theorem PA.weak {es : List Expr} {t t2 : TA} (h : PA X es t) (w : ∀ σ H Q, t2 σ H Q → t σ H Q) : PA X es t2 := ⟨fun pos pins s σ H Q I q => h.run pos pins s σ H Q I (w σ H Q q)⟩
theorem PO.weak {o : Option Expr} {t t2 : TO} (h : PO X o t) (w : ∀ σ H Q, t2 σ H Q → t σ H Q) : PO X o t2 := ⟨fun pins s σ H Q I q => h.run pins s σ H Q I (w σ H Q q)⟩
theorem PG.weak {t t2 : TG} (h : PG X e t) (w : ∀ v σ H Q, t2 v σ H Q → t v σ H Q) : PG X e t2 := ⟨fun pins s σ H v u Q I r q => h.run pins s σ H v u Q I r (w v σ H Q q)⟩
theorem PI.weak {tg : Expr} {t t2 : TI} (h : PI X tg e t) (w : ∀ σ H Q, t2 σ H Q → t σ H Q) : PI X tg e t2 := ⟨fun pins s σ H R I q => h.run pins s σ H R I (w σ H R q)⟩
end
theorem bd_some {α β : Type} {x : Option (α × S)} {f : α → S → Option (β × S)} {y : β × S} (h : bd x f = some y) : ∃ a s, x = some (a, s) ∧ f a s = some y := by
  unfold bd at h
  split at h
  · exact ⟨_, _, rfl, h⟩
  · cases h
theorem on_some {β : Type} {x : Option β} {s s' : S} {b : β} (h : on x s = some (b, s')) : x = some b ∧ s' = s := by
  unfold on at h
  split at h
  · cases h; exact ⟨rfl, rfl⟩
  · cases h
section
variable {g : Gd} {X : Cx} {sc : Scope}
theorem okV_vis {N : List Str} {i : Nat} {x : Str} (h : okV N sc i x = true) : N[i]? = some x ∧ Vis sc x ∧ (x == ("__debug__" : Str)) = false ∧ (x == ("__classdict__" : Str)) = false := by
  unfold okV at h
  simp only [Bool.and_eq_true, decide_eq_true_eq, Bool.not_eq_true'] at h
  obtain ⟨⟨⟨h1, h2⟩, h3⟩, h4⟩ := h
  refine ⟨h1, ?_, h3, h4⟩
  unfold visB at h2
  unfold Vis
  split at h2 <;> simp_all
theorem okG_gl (O : XOk g X sc) {x : Str} (h : okG sc x = true) : Gl X x ∧ (x == ("__debug__" : Str)) = false := by
  unfold okG at h
  simp only [Bool.and_eq_true, Bool.not_eq_true'] at h
  refine ⟨?_, h.2⟩
  have h1 := h.1
  unfold glB at h1
  unfold Gl Env.kindOf
  rw [O.sc]
  split at h1 <;> simp_all

/-- an operand in turn -/
theorem tE.go {x : Ex} {σ : L2.St} {H : Hp} {Q : VK} {E : Ent} {F : Hp} {ι : List Addr} {s s' : S} {r : R} (S0 : Stt g.K g.fa E F ι s σ H) (h : ev g.cal g.G x s = some (r, s'))
    (k : ∀ v F' ι' H', Stt g.K g.fa E F' ι' s' σ H' → Stp F ι H F' ι' H' → RR g.K g.fa F' ι' H' v r → Fre E s' σ v r → Q v H') : tE g x σ H Q := ⟨E, F, ι, s, S0, r, s', h, k⟩
/-- a value stays what it is while more is run -/
theorem RR.later {K : PySem.W.Frag} {fa : Nat → Option Addr} {E : Ent} {F F' H H' : Hp} {ι ι' : List Addr} {s s' : S} {σ : L2.St} {v : V} {r : R} (S1 : Stt K fa E F ι s σ H) (h : RR K fa F ι H v r) (f : Fre E s σ v r) (hs : Stp F ι H F' ι' H')
    (S2 : Stt K fa E F' ι' s' σ H') : (∀ d, r.dat s'.st = some d → Rv K F' H' v d) := by
  intro d e
  cases h with
  | w q =>
    exact S2.rv (.w (q.mono hs)) e
  | own o =>
    cases e
    obtain ⟨vs, e1, e2⟩ := o.ex
    exact ⟨_, vs, rfl, hs.ext _ _ e1 o.ni, dpa_mono hs.fz _ _ e2⟩
  | bor o =>
    cases e
    obtain ⟨vs, e1, e2⟩ := o.ex
    exact ⟨_, vs, rfl, hs.ext _ _ e1 o.ni, dpa_mono hs.fz _ _ e2⟩

/-! ### names, constants -/
theorem pe_lit {x : Ex} {e : Expr} {v : V} {d : PyData} (h : PE X e (tC v)) (hv : ∀ F, Dq g.K F v d) (he : ∀ s, ev g.cal g.G x s = some (.w (.d d), s)) : PE X e (tE g x) := by
  refine PE.weak h fun σ H Q ⟨E, F, ι, s, S0, r, s', h1, k⟩ => ?_
  rw [he] at h1
  cases h1
  exact k v F ι H S0 Stp.rfl (.w (.d (hv F))) fre_w
theorem pe_varB (O : XOk g X sc) {i : Nat} {x : Str} {pos : Pos} (h : okV g.N sc i x = true) : PE X (.Name x pos) (tVar i) := by
  obtain ⟨h1, h2, h3, h4⟩ := okV_vis h
  exact pe_var (by rw [O.eN]; exact h1) (by rw [O.sc]; exact h2) h3 h4
theorem snd_vb (O : XOk g X sc) {i : Nat} {x : Str} {pos : Pos} (h : okV g.N sc i x = true) : PE X (.Name x pos) (tE g (.vb i)) := by
  refine PE.weak (pe_varB O h) fun σ H Q ⟨E, F, ι, s, S0, r, s', h1, k⟩ => ?_
  simp only [ev] at h1
  split at h1
  · rename_i xs c
    cases h1
    obtain ⟨v, q1, q2, q3⟩ := S0.slot _ _ c
    cases q2 with
    | own o => exact ⟨_, q1, k _ F ι H S0 Stp.rfl (.bor o) fre_bor⟩
  · rename_i y c
    cases h1
    obtain ⟨v, q1, q2, q3⟩ := S0.slot _ _ c
    exact ⟨_, q1, k _ F ι H S0 Stp.rfl q2 fre_w⟩
  · cases h1
theorem snd_vm (O : XOk g X sc) {i : Nat} {x : Str} {pos : Pos} (h : okV g.N sc i x = true) : PE X (.Name x pos) (tE g (.vm i)) := by
  refine PE.weak (pe_varB O h) fun σ H Q ⟨E, F, ι, s, S0, r, s', h1, k⟩ => ?_
  simp only [ev] at h1
  split at h1
  · rename_i xs c
    cases h1
    obtain ⟨v, q1, q2, q3⟩ := S0.slot _ _ c
    cases q2 with
    | @own a _ o =>
      have ne : ∀ j (r : R), (s.sl.set i none)[j]? = some (some r) → j ≠ i ∧ s.sl[j]? = some (some r) := fun j r hj => by
        by_cases e : i = j
        · subst e
          rw [List.getElem?_set_self (List.getElem?_eq_some_iff.mp c).1] at hj
          cases hj
        · rw [List.getElem?_set_ne e] at hj
          exact ⟨fun z => e z.symm, hj⟩
      refine ⟨_, q1, k _ F ι H ?_ Stp.rfl (.own o) fun ys b e1 e2 => ?_⟩
      · exact { sub := S0.sub, step := S0.step, nofz := S0.nofz, len := by rw [S0.len]; simp, slot := fun j r hj => S0.slot j r (ne j r hj).2, new := fun j ys b o' hb => S0.new j ys b (ne j _ o').2 hb,
                dist := fun j l ys zs hjl o1 o2 => S0.dist j l ys zs hjl (ne j _ o1).2 (ne l _ o2).2, st := S0.st, nfz := S0.nfz, stl := S0.stl, nd := S0.nd,
                res := fun b hb => let ⟨h1, h2, h3, h4⟩ := S0.res b hb; ⟨h1, h2, h3, fun j ys o' => h4 j ys (ne j _ o').2⟩ }
      · cases e2
        refine ⟨S0.new i _ _ c q1, fun j zs o' hj => ?_, fun hb => (S0.res _ hb).2.2.2 i _ c q1⟩
        obtain ⟨n1, n2⟩ := ne j _ o'
        exact S0.dist j i zs _ n1 n2 c (hj.trans q1.symm)
  · rename_i y c
    cases h1
    obtain ⟨v, q1, q2, q3⟩ := S0.slot _ _ c
    exact ⟨_, q1, k _ F ι H S0 Stp.rfl q2 fre_w⟩
  · cases h1
/-- a slot's list is frozen where it stands -/
theorem Stt.frozeSlot {K : PySem.W.Frag} {fa : Nat → Option Addr} {E : Ent} {F H : Hp} {ι : List Addr} {s : S} {σ : L2.St} (S0 : Stt K fa E F ι s σ H) {i : Nat} {xs : List PyData} (c : OwnAt s i xs) :
    ∃ v F', σ[i]? = some (some v) ∧ Stt K fa E F' ι ⟨s.sl.set i (some (.w (.d (.list xs)))), s.st⟩ σ H ∧ Stp F ι H F' ι H ∧ RW K fa F' ι v (.d (.list xs)) := by
  obtain ⟨v, q1, q2, q3⟩ := S0.slot _ _ c
  cases q2 with
  | @own a _ o =>
    have il : i < s.sl.length := (List.getElem?_eq_some_iff.mp c).1
    have ne : ∀ j (r : R), (s.sl.set i (some (.w (.d (.list xs)))))[j]? = some (some r) → (j = i ∧ r = .w (.d (.list xs))) ∨ (j ≠ i ∧ s.sl[j]? = some (some r)) := fun j r hj => by
      by_cases e : i = j
      · subst e
        rw [List.getElem?_set_self il] at hj
        cases hj
        exact .inl ⟨rfl, rfl⟩
      · rw [List.getElem?_set_ne e] at hj
        exact .inr ⟨fun z => e z.symm, hj⟩
    have neo : ∀ j ys, OwnAt ⟨s.sl.set i (some (.w (.d (.list xs)))), s.st⟩ j ys → j ≠ i ∧ OwnAt s j ys := fun j ys o' => by
      rcases ne j _ o' with ⟨_, z⟩ | z
      · cases z
      · exact z
    obtain ⟨vs, e1, e2⟩ := o.ex
    have rw1 : RW K fa (upd F a (.lst vs)) ι (.ref a) (.d (.list xs)) := .d (.lst upd_same (dpa_mono (same_upd o.nf) _ _ e2))
    -- without the slot
    have S1 : Stt K fa E F ι ⟨s.sl.set i none, s.st⟩ σ H := by
      have ne0 : ∀ j (r : R), (s.sl.set i none)[j]? = some (some r) → j ≠ i ∧ s.sl[j]? = some (some r) := fun j r hj => by
        by_cases e : i = j
        · subst e
          rw [List.getElem?_set_self il] at hj
          cases hj
        · rw [List.getElem?_set_ne e] at hj
          exact ⟨fun z => e z.symm, hj⟩
      exact { sub := S0.sub, step := S0.step, nofz := S0.nofz, len := by rw [S0.len]; simp, slot := fun j r hj => S0.slot j r (ne0 j r hj).2, new := fun j ys b o' hb => S0.new j ys b (ne0 j _ o').2 hb,
              dist := fun j l ys zs hjl o1 o2 => S0.dist j l ys zs hjl (ne0 j _ o1).2 (ne0 l _ o2).2, st := S0.st, nfz := S0.nfz, stl := S0.stl, nd := S0.nd,
              res := fun b hb => let ⟨h1, h2, h3, h4⟩ := S0.res b hb; ⟨h1, h2, h3, fun j ys o' => h4 j ys (ne0 j _ o').2⟩ }
    have S2 := S1.grow (o := .lst vs) o.nf e1 (S0.new i _ _ c q1) o.ni (fun j ys o' hj => by
      have hj2 : (s.sl.set i none)[j]? = some (some (.own ys)) := o'
      by_cases e : i = j
      · subst e
        rw [List.getElem?_set_self il] at hj2
        cases hj2
      · rw [List.getElem?_set_ne e] at hj2
        exact S0.dist j i ys _ (fun z => e z.symm) hj2 c (hj.trans q1.symm)) fun hb => (S0.res _ hb).2.2.2 i _ c q1
    refine ⟨_, upd F a (.lst vs), q1, ?_, Stp.grow o.nf, rw1⟩
    refine { sub := S2.sub, step := S2.step, nofz := S2.nofz, len := by rw [S0.len]; simp, slot := fun j r hj => ?_, new := fun j ys b o' hb => S0.new j ys b (neo j ys o').2 hb,
             dist := fun j l ys zs hjl o1 o2 => S0.dist j l ys zs hjl (neo j _ o1).2 (neo l _ o2).2, st := S2.st, nfz := S2.nfz, stl := S0.stl, nd := S0.nd,
             res := fun b hb => let ⟨h1, h2, h3, _⟩ := S2.res b hb; ⟨h1, h2, h3, fun j ys o' => (S0.res b hb).2.2.2 j ys (neo j _ o').2⟩ }
    rcases ne j r hj with ⟨rfl, rfl⟩ | ⟨n1, n2⟩
    · exact ⟨_, q1, .w rw1, fun _ z => by cases z⟩
    · exact S2.slot j r (by show (s.sl.set i none)[j]? = _; rw [List.getElem?_set_ne (Ne.symm n1)]; exact n2)
theorem snd_var (O : XOk g X sc) {i : Nat} {x : Str} {pos : Pos} (h : okV g.N sc i x = true) : PE X (.Name x pos) (tE g (.var i)) := by
  refine PE.weak (pe_varB O h) fun σ H Q ⟨E, F, ι, s, S0, r, s', h1, k⟩ => ?_
  simp only [ev] at h1
  split at h1
  · rename_i xs c
    cases h1
    obtain ⟨v, F', q1, S1, st, q2⟩ := S0.frozeSlot c
    exact ⟨_, q1, k _ F' ι H S1 st (.w q2) fre_w⟩
  · rename_i y c
    cases h1
    obtain ⟨v, q1, q2, q3⟩ := S0.slot _ _ c
    exact ⟨_, q1, k _ F ι H S0 Stp.rfl q2 fre_w⟩
  · cases h1
theorem snd_glb (O : XOk g X sc) {i : Nat} {x : Str} {pos : Pos} (h : okG sc x = true) (hg : g.L.gl[i]? = some x) : PE X (.Name x pos) (tE g (.glb i)) := by
  obtain ⟨h1, h2⟩ := okG_gl O h
  obtain ⟨u, v, d, q1, q2, q3, q4⟩ := O.gls i x hg
  refine pe_lit (pe_glob h1 q1 q2 h2) (fun F => by rw [← O.eK]; exact q4 F) fun s => ?_
  simp only [ev, q3, on, Option.map_some]
theorem snd_fnv (O : XOk g X sc) {i : Nat} {x : Str} {pos : Pos} (h : okG sc x = true) (hg : g.L.fn[i]? = some x) : PE X (.Name x pos) (tE g (.fnv i)) := by
  obtain ⟨h1, h2⟩ := okG_gl O h
  obtain ⟨a, q1, q2, q3⟩ := O.fns i x hg
  refine PE.weak (pe_glob (v := .ref a) h1 q2 rfl h2) fun σ H Q ⟨E, F, ι, s, S0, r, s', e1, k⟩ => ?_
  simp only [ev] at e1
  cases e1
  exact k _ F ι H S0 Stp.rfl (.w (.fn q1)) fre_w

/-! ### two operands -/
theorem two {A B : Expr} {a b : Ex} {f : PyData → PyData → Option R} {r2 : R2} {x : Ex} (he : ∀ s, ev g.cal g.G x s = bd (ev g.cal g.G a s) fun x s1 => bd (ev g.cal g.G b s1) fun y s2 => on ((x.dat s2.st).bind fun p => (y.dat s2.st).bind fun q => f p q) s2)
    (hr : ∀ F H v u p q r Q, Same F H → Rv g.K F H v p → Rv g.K F H u q → f p q = some r → (∀ w H', Mk g.K F H r w H' → Q w H') → r2 v u H Q) :
    ∀ σ H Q, tE g x σ H Q → tOp r2 (tE g a) (tE g b) σ H Q := by
  intro σ H Q ⟨E, F, ι, s, S0, r, s', h1, k⟩
  rw [he] at h1
  replace h1 := bd_some h1
  obtain ⟨r1, s1, e1, h1⟩ := h1
  replace h1 := bd_some h1
  obtain ⟨r2', s2, e2, h1⟩ := h1
  replace h1 := on_some h1
  obtain ⟨h1, rfl⟩ := h1
  rw [Option.bind_eq_some_iff] at h1
  obtain ⟨p, d1, h1⟩ := h1
  rw [Option.bind_eq_some_iff] at h1
  obtain ⟨q, d2, h1⟩ := h1
  refine tE.go S0 e1 fun v F1 ι1 H1 S1 st1 rr1 f1 => tE.go S1 e2 fun u F2 ι2 H2 S2 st2 rr2 f2 => ?_
  refine hr F2 H2 v u p q r Q S2.sub (rr1.later S1 f1 st2 S2 p d1) (S2.rv rr2 d2) h1 fun w H' m => ?_
  obtain ⟨F3, S3, st3, rr3, f3⟩ := S2.made m
  exact k w F3 ι2 H' S3 ((st1.trans st2).trans st3) rr3 f3
theorem one {a : Ex} {f : PyData → Option R} {r1 : V → Hp → VK → Prop} {x : Ex} (he : ∀ s, ev g.cal g.G x s = bd (ev g.cal g.G a s) fun x s1 => on ((x.dat s1.st).bind fun p => f p) s1)
    (hr : ∀ F H v p r Q, Same F H → Rv g.K F H v p → f p = some r → (∀ w H', Mk g.K F H r w H' → Q w H') → r1 v H Q) :
    ∀ σ H Q, tE g x σ H Q → tE g a σ H fun v H1 => r1 v H1 Q := by
  intro σ H Q ⟨E, F, ι, s, S0, r, s', h1, k⟩
  rw [he] at h1
  replace h1 := bd_some h1
  obtain ⟨r0, s1, e1, h1⟩ := h1
  replace h1 := on_some h1
  obtain ⟨h1, rfl⟩ := h1
  rw [Option.bind_eq_some_iff] at h1
  obtain ⟨p, d1, h1⟩ := h1
  refine tE.go S0 e1 fun v F1 ι1 H1 S1 st1 rr1 f1 => ?_
  refine hr F1 H1 v p r Q S1.sub (S1.rv rr1 d1) h1 fun w H' m => ?_
  obtain ⟨F3, S3, st3, rr3, f3⟩ := S1.made m
  exact k w F3 ι1 H' S3 (st1.trans st3) rr3 f3
theorem asB_dat {st : List Cell} {r : R} {b : Bool} (h : asB st r = some b) : r.dat st = some (.bool b) := by
  unfold asB at h
  split at h
  · cases h; assumption
  · cases h
theorem asI_dat {st : List Cell} {r : R} {b : Int} (h : asI st r = some b) : r.dat st = some (.int b) := by
  unfold asI at h
  split at h
  · cases h; assumption
  · cases h
/-- a value as a test -/
theorem pt_of {e : Expr} {x : Ex} (h : PE X e (tE g x)) (he : ∀ whole, isTrue e X.env whole = (do let v ← whole; standAt e.pos; holding [v] (truthy v))) : PT X e (tT g x) := by
  refine PT.weak (pt_val h he) fun σ H Q ⟨E, F, ι, s, S0, r, s', b, h1, hb, k⟩ => ?_
  refine tE.go S0 h1 fun v F1 ι1 H1 S1 st1 rr1 f1 => ⟨b, ?_, k F1 ι1 H1 S1 st1⟩
  exact (S1.rv rr1 (asB_dat hb)).bl
theorem snd_bin {a b : Ex} {o : Bo} {A B : Expr} {pos : Pos} (O : XOk g X sc) (ha : PE X A (tE g a)) (hb : PE X B (tE g b)) : PE X (.BinOp A (boO o) B pos) (tE g (.bin o a b)) :=
  PE.weak (pe_op (op_bin o) ha hb) (two (A := A) (B := B) (f := bin2 o) (fun s => by simp only [ev]) fun F H v u p q r Q e hp hq hr k => ⟨F, p, q, r, e, by rw [O.eK]; exact hp, by rw [O.eK]; exact hq, hr, by rw [O.eK]; exact k⟩)
theorem rC_of (O : XOk g X sc) {o : Co} {F H : Hp} {v u : V} {p q : PyData} {r : R} {Q : VK} (e : Same F H) (hp : Rv g.K F H v p) (hq : Rv g.K F H u q) (hr : (cmp2 o p q).map (fun c => R.b c) = some r) (k : ∀ w H', Mk g.K F H r w H' → Q w H') : rC X.K o v u H Q := by
  rw [Option.map_eq_some_iff] at hr
  obtain ⟨c, h1, rfl⟩ := hr
  exact ⟨F, p, q, c, e, by rw [O.eK]; exact hp, by rw [O.eK]; exact hq, h1, k _ _ (.old (.bl _))⟩
theorem snd_cmp {a b : Ex} {o : Co} {A B : Expr} {pos : Pos} (O : XOk g X sc) (ha : PE X A (tE g a)) (hb : PE X B (tE g b)) (hm : behindInMarks (coO o) B = false) : PE X (.Compare A [coO o] [B] pos) (tE g (.cmp o a b)) :=
  PE.weak (pe_cmpR (op_cmp (by have := O.room; omega) o) ha hb hm) (two (A := A) (B := B) (f := fun p q => (cmp2 o p q).map fun c => R.b c) (fun s => by simp only [ev]) fun F H v u p q r Q e hp hq hr k => rC_of O e hp hq hr k)
/-- a test by the value's reading, where the test's own rule wants the value's -/
theorem tT_tE {x : Ex} {t : TE} (h : ∀ σ H Q, tE g x σ H Q → t σ H Q) : ∀ σ H Q, tT g x σ H Q → t σ H (fun v H1 => ∃ k, v = .bl k ∧ Q k H1) := fun σ H Q ⟨E, F, ι, s, S0, r, s', b, h1, hb, k⟩ =>
  h σ H _ (tE.go S0 h1 fun v F1 ι1 H1 S1 st1 rr1 f1 => ⟨b, (S1.rv rr1 (asB_dat hb)).bl, k F1 ι1 H1 S1 st1⟩)
theorem snd_cmpT {a b : Ex} {o : Co} {A B : Expr} {pos : Pos} (O : XOk g X sc) (ha : PE X A (tE g a)) (hb : PE X B (tE g b)) (hm : behindInMarks (coO o) B = false) : PT X (.Compare A [coO o] [B] pos) (tT g (.cmp o a b)) :=
  PT.weak (pt_cmpR (op_cmp (by have := O.room; omega) o) ha hb hm) (tT_tE (two (A := A) (B := B) (f := fun p q => (cmp2 o p q).map fun c => R.b c) (fun s => by simp only [ev]) fun F H v u p q r Q e hp hq hr k => rC_of O e hp hq hr k))
theorem chain_r {a b c : Ex} {o o2 : Co} (O : XOk g X sc) : ∀ σ H Q, tE g (.cmp2 o o2 a b c) σ H Q → tChain (rC X.K o) (rC X.K o2) (tE g a) (tE g b) (tE g c) σ H Q := by
  intro σ H Q ⟨E, F, ι, s, S0, r, s', h1, k⟩
  simp only [ev] at h1
  replace h1 := bd_some h1
  obtain ⟨r1, s1, e1, h1⟩ := h1
  replace h1 := bd_some h1
  obtain ⟨r2, s2, e2, h1⟩ := h1
  replace h1 := bd_some h1
  obtain ⟨kk, s3, e3, h1⟩ := h1
  replace e3 := on_some e3
  obtain ⟨e3, rfl⟩ := e3
  rw [Option.bind_eq_some_iff] at e3
  obtain ⟨p, d1, e3⟩ := e3
  rw [Option.bind_eq_some_iff] at e3
  obtain ⟨q, d2, e3⟩ := e3
  refine tE.go S0 e1 fun v F1 ι1 H1 S1 st1 rr1 f1 => tE.go S1 e2 fun u F2 ι2 H2 S2 st2 rr2 f2 => ?_
  refine ⟨F2, p, q, kk, S2.sub, by rw [O.eK]; exact rr1.later S1 f1 st2 S2 p d1, by rw [O.eK]; exact S2.rv rr2 d2, e3, kk, rfl, ?_⟩
  cases kk with
  | false =>
    rw [if_neg Bool.false_ne_true] at h1
    cases h1
    rw [if_neg Bool.false_ne_true]
    exact k _ F2 ι2 H2 S2 (st1.trans st2) (.w (.d (.bl _))) fre_w
  | true =>
    rw [if_pos rfl] at h1
    rw [if_pos rfl]
    replace h1 := bd_some h1
    obtain ⟨r4, s4, e4, h1⟩ := h1
    replace h1 := on_some h1
    obtain ⟨h1, rfl⟩ := h1
    rw [Option.bind_eq_some_iff] at h1
    obtain ⟨p2, d3, h1⟩ := h1
    rw [Option.bind_eq_some_iff] at h1
    obtain ⟨q2, d4, h1⟩ := h1
    refine tE.go S2 e4 fun w F4 ι4 H4 S4 st4 rr4 f4 => ?_
    refine rC_of O S4.sub (rr2.later S2 f2 st4 S4 p2 d3) (S4.rv rr4 d4) h1 fun w' H' m => ?_
    obtain ⟨F5, S5, st5, rr5, f5⟩ := S4.made m
    exact k w' F5 ι4 H' S5 (((st1.trans st2).trans st4).trans st5) rr5 f5
theorem snd_cmp2 {a b c : Ex} {o o2 : Co} {A B C : Expr} {pos : Pos} (O : XOk g X sc) (ha : PE X A (tE g a)) (hb : PE X B (tE g b)) (hc : PE X C (tE g c)) (hm : behindInMarks (coO o2) C = false) : PE X (.Compare A [coO o, coO o2] [B, C] pos) (tE g (.cmp2 o o2 a b c)) :=
  PE.weak (pe_chain (op_cmp (by have := O.room; omega) o) (op_cmp (by have := O.room; omega) o2) ha hb hc hm) (chain_r O)
theorem snd_cmp2T {a b c : Ex} {o o2 : Co} {A B C : Expr} {pos : Pos} (O : XOk g X sc) (ha : PE X A (tE g a)) (hb : PE X B (tE g b)) (hc : PE X C (tE g c)) (hm : behindInMarks (coO o2) C = false) : PT X (.Compare A [coO o, coO o2] [B, C] pos) (tT g (.cmp2 o o2 a b c)) :=
  PT.weak (pt_chain (op_cmp (by have := O.room; omega) o) (op_cmp (by have := O.room; omega) o2) ha hb hc hm) (tT_tE (chain_r O))
end
end Xp

/-! E7: the expressions run as they are read, further. -/
namespace Xp
open PySem PySem.Spec PyProof.Rows L2
section
variable {g : Gd} {X : Cx} {sc : Scope}

/-! ### and, or, not, if -/
theorem tE_bool {a : Ex} {σ : L2.St} {H : Hp} {Q : VK} {E : Ent} {F : Hp} {ι : List Addr} {s s1 : S} {r1 : R} {c : Bool} (S0 : Stt g.K g.fa E F ι s σ H) (e1 : ev g.cal g.G a s = some (r1, s1)) (d1 : asB s1.st r1 = some c)
    (k : ∀ F' ι' H', Stt g.K g.fa E F' ι' s1 σ H' → Stp F ι H F' ι' H' → Q (.bl c) H') : tE g a σ H Q := tE.go S0 e1 fun v F1 ι1 H1 S1 st1 rr1 f1 => by
  rw [(S1.rv rr1 (asB_dat d1)).bl]
  exact k F1 ι1 H1 S1 st1
theorem snd_and {a b : Ex} {A B : Expr} {r : List Expr} {pos : Pos} (ha : PE X A (tE g a)) (hb : PE X (.BoolOp .And (B :: r) pos) (tE g b)) : PE X (.BoolOp .And (A :: B :: r) pos) (tE g (.and a b)) := by
  refine PE.weak (pe_and ha hb) fun σ H Q ⟨E, F, ι, s, S0, r, s', h1, k⟩ => ?_
  simp only [ev] at h1
  replace h1 := bd_some h1
  obtain ⟨r1, s1, e1, h1⟩ := h1
  replace h1 := bd_some h1
  obtain ⟨c, s2, e2, h1⟩ := h1
  replace e2 := on_some e2
  obtain ⟨e2, rfl⟩ := e2
  refine tE_bool S0 e1 e2 fun F1 ι1 H1 S1 st1 => ⟨c, rfl, ?_⟩
  cases c with
  | true =>
    rw [if_pos rfl] at h1 ⊢
    exact tE.go S1 h1 fun v F2 ι2 H2 S2 st2 rr2 f2 => k v F2 ι2 H2 S2 (st1.trans st2) rr2 f2
  | false =>
    rw [if_neg Bool.false_ne_true] at h1 ⊢
    cases h1
    exact k _ F1 ι1 H1 S1 st1 (.w (.d (.bl _))) fre_w
theorem snd_or {a b : Ex} {A B : Expr} {r : List Expr} {pos : Pos} (ha : PE X A (tE g a)) (hb : PE X (.BoolOp .Or (B :: r) pos) (tE g b)) : PE X (.BoolOp .Or (A :: B :: r) pos) (tE g (.or a b)) := by
  refine PE.weak (pe_or ha hb) fun σ H Q ⟨E, F, ι, s, S0, r, s', h1, k⟩ => ?_
  simp only [ev] at h1
  replace h1 := bd_some h1
  obtain ⟨r1, s1, e1, h1⟩ := h1
  replace h1 := bd_some h1
  obtain ⟨c, s2, e2, h1⟩ := h1
  replace e2 := on_some e2
  obtain ⟨e2, rfl⟩ := e2
  refine tE_bool S0 e1 e2 fun F1 ι1 H1 S1 st1 => ⟨c, rfl, ?_⟩
  cases c with
  | false =>
    rw [if_neg Bool.false_ne_true] at h1 ⊢
    exact tE.go S1 h1 fun v F2 ι2 H2 S2 st2 rr2 f2 => k v F2 ι2 H2 S2 (st1.trans st2) rr2 f2
  | true =>
    rw [if_pos rfl] at h1 ⊢
    cases h1
    exact k _ F1 ι1 H1 S1 st1 (.w (.d (.bl _))) fre_w
theorem snd_not {a : Ex} {A : Expr} {pos : Pos} (ha : PE X A (tE g a)) : PE X (.UnaryOp .Not A pos) (tE g (.not a)) := by
  refine PE.weak (pe_not ha) fun σ H Q ⟨E, F, ι, s, S0, r, s', h1, k⟩ => ?_
  simp only [ev] at h1
  replace h1 := bd_some h1
  obtain ⟨r1, s1, e1, h1⟩ := h1
  replace h1 := bd_some h1
  obtain ⟨c, s2, e2, h1⟩ := h1
  replace e2 := on_some e2
  obtain ⟨e2, rfl⟩ := e2
  cases h1
  exact tE_bool S0 e1 e2 fun F1 ι1 H1 S1 st1 => ⟨c, rfl, k _ F1 ι1 H1 S1 st1 (.w (.d (.bl _))) fre_w⟩
theorem snd_ite {c a b : Ex} {C A B : Expr} {pos : Pos} (hc : PT X C (tT g c)) (ha : PE X A (tE g a)) (hb : PE X B (tE g b)) : PE X (.IfExp C A B pos) (tE g (.ite c a b)) := by
  refine PE.weak (pe_ifExp hc ha hb) fun σ H Q ⟨E, F, ι, s, S0, r, s', h1, k⟩ => ?_
  simp only [ev] at h1
  replace h1 := bd_some h1
  obtain ⟨r1, s1, e1, h1⟩ := h1
  replace h1 := bd_some h1
  obtain ⟨kk, s2, e2, h1⟩ := h1
  replace e2 := on_some e2
  obtain ⟨e2, rfl⟩ := e2
  refine ⟨E, F, ι, s, S0, r1, s2, kk, e1, e2, fun F1 ι1 H1 S1 st1 => ?_⟩
  cases kk with
  | false =>
    rw [if_neg Bool.false_ne_true] at h1 ⊢
    exact tE.go S1 h1 fun v F2 ι2 H2 S2 st2 rr2 f2 => k v F2 ι2 H2 S2 (st1.trans st2) rr2 f2
  | true =>
    rw [if_pos rfl] at h1 ⊢
    exact tE.go S1 h1 fun v F2 ι2 H2 S2 st2 rr2 f2 => k v F2 ι2 H2 S2 (st1.trans st2) rr2 f2
/-- tests: and, or, not -/
theorem snd_andT {a b : Ex} {A B : Expr} {r : List Expr} {pos : Pos} (ha : PT X A (tT g a)) (hb : PW X (.BoolOp .And (B :: r) pos) (tT g b)) : PW X (.BoolOp .And (A :: B :: r) pos) (tT g (.and a b)) := by
  refine ⟨fun wh pins st σ H Q I h => (pw_and ha hb).run wh pins st σ H Q I ?_⟩
  obtain ⟨E, F, ι, s, S0, r, s', kb, h1, hb1, k⟩ := h
  simp only [ev] at h1
  replace h1 := bd_some h1
  obtain ⟨r1, s1, e1, h1⟩ := h1
  replace h1 := bd_some h1
  obtain ⟨kk, s2, e2, h1⟩ := h1
  replace e2 := on_some e2
  obtain ⟨e2, rfl⟩ := e2
  refine ⟨E, F, ι, s, S0, r1, s2, kk, e1, e2, fun F1 ι1 H1 S1 st1 => ?_⟩
  cases kk with
  | true =>
    rw [if_pos rfl] at h1 ⊢
    exact ⟨E, F1, ι1, s2, S1, r, s', kb, h1, hb1, fun F2 ι2 H2 S2 st2 => k F2 ι2 H2 S2 (st1.trans st2)⟩
  | false =>
    rw [if_neg Bool.false_ne_true] at h1 ⊢
    cases h1
    cases hb1
    exact k F1 ι1 H1 S1 st1
theorem snd_orT {a b : Ex} {A B : Expr} {r : List Expr} {pos : Pos} (ha : PT X A (tT g a)) (hb : PW X (.BoolOp .Or (B :: r) pos) (tT g b)) : PW X (.BoolOp .Or (A :: B :: r) pos) (tT g (.or a b)) := by
  refine ⟨fun wh pins st σ H Q I h => (pw_or ha hb).run wh pins st σ H Q I ?_⟩
  obtain ⟨E, F, ι, s, S0, r, s', kb, h1, hb1, k⟩ := h
  simp only [ev] at h1
  replace h1 := bd_some h1
  obtain ⟨r1, s1, e1, h1⟩ := h1
  replace h1 := bd_some h1
  obtain ⟨kk, s2, e2, h1⟩ := h1
  replace e2 := on_some e2
  obtain ⟨e2, rfl⟩ := e2
  refine ⟨E, F, ι, s, S0, r1, s2, kk, e1, e2, fun F1 ι1 H1 S1 st1 => ?_⟩
  cases kk with
  | false =>
    rw [if_neg Bool.false_ne_true] at h1 ⊢
    exact ⟨E, F1, ι1, s2, S1, r, s', kb, h1, hb1, fun F2 ι2 H2 S2 st2 => k F2 ι2 H2 S2 (st1.trans st2)⟩
  | true =>
    rw [if_pos rfl] at h1 ⊢
    cases h1
    cases hb1
    exact k F1 ι1 H1 S1 st1
theorem snd_notT {a : Ex} {A : Expr} {pos : Pos} (ha : PT X A (tT g a)) : PT X (.UnaryOp .Not A pos) (tT g (.not a)) := by
  refine PT.weak (pt_not ha) fun σ H Q ⟨E, F, ι, s, S0, r, s', kb, h1, hb1, k⟩ => ?_
  simp only [ev] at h1
  replace h1 := bd_some h1
  obtain ⟨r1, s1, e1, h1⟩ := h1
  replace h1 := bd_some h1
  obtain ⟨c, s2, e2, h1⟩ := h1
  replace e2 := on_some e2
  obtain ⟨e2, rfl⟩ := e2
  cases h1
  cases hb1
  exact ⟨E, F, ι, s, S0, r1, _, c, e1, e2, fun F1 ι1 H1 S1 st1 => k F1 ι1 H1 S1 st1⟩

/-! ### argument lists, displays, calls -/
theorem star_of {e : Expr} {es : List Expr} {env : Env} (h : notStar e = true) : starEach (e :: es) env = (false, eval e env) :: starEach es env := by
  cases e <;> first | rfl | cases h
theorem snd_nil : PA X [] (tAs g .nil) := PA.weak pa_nil fun σ H Q ⟨E, F, ι, s, S0, ws, s', h1, k⟩ => by
  simp only [evs] at h1
  cases h1
  exact k [] F ι H S0 Stp.rfl .nil
theorem snd_cons {a : Ex} {as : Exs} {A : Expr} {l : List Expr} (ha : PE X A (tE g a)) (hl : PA X l (tAs g as)) (hn : notStar A = true) : PA X (A :: l) (tAs g (.cons a as)) :=
  PA.weak (pa_cons ha hl (star_of hn)) fun σ H Q ⟨E, F, ι, s, S0, ws, s', h1, k⟩ => by
    simp only [evs] at h1
    replace h1 := bd_some h1
    obtain ⟨r1, s1, e1, h1⟩ := h1
    replace h1 := bd_some h1
    obtain ⟨w, s2, e2, h1⟩ := h1
    replace e2 := on_some e2
    obtain ⟨e2, rfl⟩ := e2
    replace h1 := bd_some h1
    obtain ⟨us, s3, e3, h1⟩ := h1
    cases h1
    refine tE.go S0 e1 fun v F1 ι1 H1 S1 st1 rr1 f1 => ?_
    obtain ⟨F2, S2, st2, q2⟩ := S1.froze rr1 f1 e2
    exact ⟨E, F2, ι1, _, S2, us, _, e3, fun vs F3 ι3 H3 S3 st3 q3 => k _ F3 ι3 H3 S3 ((st1.trans st2).trans st3) (.cons (q2.mono st3) q3)⟩
theorem asD_of {K : PySem.W.Frag} {fa : Nat → Option Addr} {F : Hp} {ι : List Addr} : ∀ {vs : List V} {ws : List W} {ds : List PyData}, RWs K fa F ι vs ws → asD ws = some ds → DqAll K F vs ds
  | _, _, _, .nil, h => by cases h; exact .nil
  | _, _, ds, @RWs.cons _ _ _ _ v vs w ws q r, h => by
    cases q with
    | d q =>
      simp only [asD, Option.map_eq_some_iff] at h
      obtain ⟨es, h1, rfl⟩ := h
      exact .cons q (asD_of r h1)
    | cell q => cases h
    | fn q => cases h
    | known q => cases h
theorem evs_len {cal : Nat → List W → List Cell → Option (R × List Cell)} {G : List PyData} {N : List Str} {L : Lk} {sc : Scope} : ∀ (es : Exs) (l : List Expr) {s s' : S} {ws : List W}, chks N L es sc l = true → evs cal G es s = some (ws, s') → ws.length = l.length
  | .nil, l, s, s', ws, hc, h => by
    simp only [evs] at h
    cases h
    cases l with
    | nil => rfl
    | cons a b => simp [chks] at hc
  | .cons a as, l, s, s', ws, hc, h => by
    simp only [evs] at h
    replace h := bd_some h
    obtain ⟨r1, s1, e1, h1⟩ := h
    replace h1 := bd_some h1
    obtain ⟨w, s2, e2, h1⟩ := h1
    replace e2 := on_some e2
    obtain ⟨e2, rfl⟩ := e2
    replace h1 := bd_some h1
    obtain ⟨us, s3, e3, h1⟩ := h1
    cases h1
    cases l with
    | nil => simp [chks] at hc
    | cons x r =>
      simp only [chks, Bool.and_eq_true] at hc
      rw [List.length_cons, List.length_cons, evs_len as r hc.1.2 e3]
theorem asD_len : ∀ {ws : List W} {ds : List PyData}, asD ws = some ds → ds.length = ws.length
  | [], _, h => by cases h; rfl
  | .d x :: r, ds, h => by
    simp only [asD, Option.map_eq_some_iff] at h
    obtain ⟨es, h1, rfl⟩ := h
    rw [List.length_cons, List.length_cons, asD_len h1]
  | .cell _ :: _, _, h => by cases h
  | .fn _ :: _, _, h => by cases h
  | .known _ :: _, _, h => by cases h
theorem snd_tup {es : Exs} {l : List Expr} {k2 : Nat} {pos : Pos} (h : PA X l (tAs g es)) (hc : chks g.N g.L es sc l = true) (hl : l.length ≤ 1000) : PE X (.Tuple l k2 pos) (tE g (.tup es)) := by
  refine PE.weak (pe_tup h) fun σ H Q ⟨E, F, ι, s, S0, r, s', h1, k⟩ => ?_
  simp only [ev] at h1
  replace h1 := bd_some h1
  obtain ⟨ws, s1, e1, h1⟩ := h1
  replace h1 := on_some h1
  obtain ⟨h1, rfl⟩ := h1
  rw [Option.map_eq_some_iff] at h1
  obtain ⟨ds, h2, rfl⟩ := h1
  refine ⟨E, F, ι, s, S0, ws, s', e1, fun vs F1 ι1 H1 S1 st1 q1 => ⟨?_, fun p hp => ?_⟩⟩
  · rw [q1.len, evs_len es l hc e1, sizeL]
    omega
  · obtain ⟨F2, S2, st2, rr2, f2⟩ := S1.made (Mk.tup hp (asD_of q1 h2))
    exact k _ F2 ι1 _ S2 (st1.trans st2) rr2 f2
theorem snd_lst {es : Exs} {l : List Expr} {pos : Pos} (h : PA X l (tAs g es)) (hc : chks g.N g.L es sc l = true) (hl : l.length ≤ 1000) : PE X (.List l pos) (tE g (.lst es)) := by
  refine PE.weak (pe_lst h) fun σ H Q ⟨E, F, ι, s, S0, r, s', h1, k⟩ => ?_
  simp only [ev] at h1
  replace h1 := bd_some h1
  obtain ⟨ws, s1, e1, h1⟩ := h1
  replace h1 := on_some h1
  obtain ⟨h1, rfl⟩ := h1
  rw [Option.map_eq_some_iff] at h1
  obtain ⟨ds, h2, rfl⟩ := h1
  refine ⟨E, F, ι, s, S0, ws, s', e1, fun vs F1 ι1 H1 S1 st1 q1 => ⟨?_, fun p hp => ?_⟩⟩
  · rw [q1.len, evs_len es l hc e1, sizeL]
    omega
  · obtain ⟨F2, S2, st2, rr2, f2⟩ := S1.made (Mk.lst hp (asD_of q1 h2))
    exact k _ F2 ι1 _ S2 (st1.trans st2) rr2 f2
/-- behind a call the caller's state stands -/
theorem Stt.after {K : PySem.W.Frag} {fa : Nat → Option Addr} {E : Ent} {F H F' H' : Hp} {ι ι' : List Addr} {s : S} {σ : L2.St} {st' : List Cell} {v : V} {r : R} (S0 : Stt K fa E F ι s σ H) (c : Cd K fa F ι H F' ι' H' st' v r) :
    Stt K fa E F' ι' ⟨s.sl, st'⟩ σ H' ∧ Fre E ⟨s.sl, st'⟩ σ v r := by
  have own : ∀ i xs a, OwnAt s i xs → σ[i]? = some (some (.ref a)) → H a ≠ none ∧ Own K F' ι' H' a xs := fun i xs a o e => by
    obtain ⟨w, q1, q2, q3⟩ := S0.slot _ _ o
    rw [e] at q1
    cases q1
    cases q2 with
    | own o =>
      obtain ⟨vs, e1, e2⟩ := o.ex
      refine ⟨by rw [e1]; simp, ⟨vs, c.step.ext _ _ e1 o.ni, dpa_mono c.step.fz _ _ e2⟩, ?_, fun z => ?_⟩
      · cases z : F' a with
        | none => rfl
        | some u =>
          rcases c.nofz a u z with z | z
          · rw [o.nf] at z; cases z
          · rw [e1] at z; cases z
      · rcases c.step.imem z with z | z
        · exact o.ni z
        · rw [e1] at z; cases z
  refine ⟨{ sub := c.sub, step := S0.step.trans c.step, nofz := fun b o z => ?_, len := S0.len, slot := fun i r0 h => ?_, new := S0.new, dist := S0.dist, st := c.cs.st, nfz := c.cs.nfz, stl := c.cs.stl, nd := c.cs.nd, res := fun b hb => ?_ }, fun xs a e1 e2 => ?_⟩
  · rcases c.nofz b o z with z | z
    · exact S0.nofz b o z
    · exact .inr (S0.step.dom b z)
  · obtain ⟨w, q1, q2, q3⟩ := S0.slot i r0 h
    refine ⟨w, q1, ?_, q3⟩
    cases q2 with
    | w q => exact .w (q.mono c.step)
    | @own a xs o => exact .own (own i xs a h q1).2
    | bor o => exact absurd rfl (q3 _)
  · obtain ⟨h1, h2, h3, h4⟩ := S0.res b hb
    refine ⟨?_, fun z => h2 (c.step.dom b z), fun z => ?_, h4⟩
    · cases z : F' b with
      | none => rfl
      | some u =>
        rcases c.nofz b u z with z | z
        · rw [h1] at z; cases z
        · exact absurd z h2
    · rcases c.step.imem z with z | z
      · exact h3 z
      · exact h2 z
  · have hn := c.fre xs a e1 e2
    refine ⟨S0.step.dom a hn, fun i ys o hi => ?_, fun hb => (S0.res a hb).2.1 hn⟩
    rw [e2] at hi
    exact (own i ys a o hi).1 hn
theorem pe_callX {a : Addr} {r : List V → Hp → VK → Prop} {x : Str} {p pos : Pos} {e : Expr} {es : List Expr} {t : TA} (hc : CallR X (.ref a) r) (hk : PySem.W.keepIn X.K (.ref a) = true) (hg : Gl X x) (hm : X.mg x = some (.ref a)) (hd : (x == ("__debug__" : Str)) = false)
    (ha : PA X (e :: es) t) (he : starEach (e :: es) X.env = (false, eval e X.env) :: starEach es X.env) (hpl : (backTo pos (starEach es X.env)).any (·.1) = false) : PE X (.Call (.Name x p) (e :: es) [] pos) (tCB r t) := by
  refine ⟨fun pins s σ H Q I h => wpAny_Call_Name_kw (ld_glob I hg hm ?_ hd)⟩
  exact PySem.W.callWith_K (h₀ := X.base) I.ok.mod.kin hk (thn (ha.run pos pins s σ H _ I h) fun us s1 ⟨vs, H1, I1, r, q⟩ => ⟨I1.kIn, hc pins s1 σ H1 vs us Q I1 r q⟩) he hpl
theorem plain_args {N : List Str} {L : Lk} {sc : Scope} {env : Env} {pos : Pos} : ∀ (es : Exs) (l : List Expr), chks N L es sc l = true → (backTo pos (starEach l env)).any (·.1) = false
  | .nil, l, h => by
    cases l with
    | nil => rfl
    | cons a b => simp [chks] at h
  | .cons a as, l, h => by
    cases l with
    | nil => simp [chks] at h
    | cons x r =>
      simp only [chks, Bool.and_eq_true] at h
      rw [star_of h.2]
      have ih := plain_args (pos := pos) (env := env) as r h.1.2
      unfold backTo at ih ⊢
      rw [List.map_cons, List.any_cons, ih]
      rfl
theorem cal_r {f : Nat} {es : Exs} {x : Ex} (hx : ∀ s, ev g.cal g.G x s = bd (evs g.cal g.G es s) fun ws s1 => (match g.cal f ws s1.st with
    | some (r, st) => some (r, ⟨s1.sl, st⟩)
    | none => none)) : ∀ σ H Q, tE g x σ H Q → tCB (fun vs H Q => spF g f vs H Q fun _ _ _ => False) (tAs g es) σ H Q := by
  intro σ H Q ⟨E, F, ι, s, S0, r, s', h1, k⟩
  rw [hx] at h1
  replace h1 := bd_some h1
  obtain ⟨ws, s1, e1, h1⟩ := h1
  refine ⟨E, F, ι, s, S0, ws, s1, e1, fun vs F1 ι1 H1 S1 st1 q1 => ?_⟩
  cases c : g.cal f ws s1.st with
  | none => rw [c] at h1; cases h1
  | some y =>
    obtain ⟨r2, st2⟩ := y
    rw [c] at h1
    cases h1
    refine ⟨F1, ι1, s1.st, ws, S1.sub, S1.cs, q1, _, _, c, fun v F' ι' H' cd => ?_⟩
    obtain ⟨S2, f2⟩ := S1.after cd
    exact k v F' ι' H' S2 (st1.trans cd.step) cd.rr f2
theorem snd_cal (O : XOk g X sc) {f : Nat} {es : Exs} {x : Str} {p pos : Pos} {y : Expr} {l : List Expr} (h1 : okG sc x = true) (h2 : g.L.fn[f]? = some x) (hc : chks g.N g.L es sc (y :: l) = true) (ha : PA X (y :: l) (tAs g es)) : PE X (.Call (.Name x p) (y :: l) [] pos) (tE g (.cal f es)) := by
  obtain ⟨g1, g2⟩ := okG_gl O h1
  obtain ⟨a, q1, q2, q3⟩ := O.fns f x h2
  obtain ⟨_, q4⟩ := O.fcl f a q1
  cases es with
  | nil => simp [chks] at hc
  | cons b bs =>
    have hc2 := hc
    simp only [chks, Bool.and_eq_true] at hc2
    exact PE.weak (pe_callX (q4 X rfl rfl rfl rfl rfl rfl) q3 g1 q2 g2 ha (star_of hc2.2) (plain_args bs l hc2.1.2)) (cal_r fun s => by simp only [ev]; try rfl)
theorem snd_cal0 (O : XOk g X sc) {f : Nat} {x : Str} {p pos : Pos} (h1 : okG sc x = true) (h2 : g.L.fn[f]? = some x) : PE X (.Call (.Name x p) [] [] pos) (tE g (.cal f .nil)) := by
  obtain ⟨g1, g2⟩ := okG_gl O h1
  obtain ⟨a, q1, q2, q3⟩ := O.fns f x h2
  obtain ⟨_, q4⟩ := O.fcl f a q1
  refine ⟨fun pins s σ H Q I h => ?_⟩
  have rd := (cal_r (g := g) (f := f) (es := .nil) (x := .cal f .nil) (fun s => by simp only [ev]; try rfl)) σ H Q h
  obtain ⟨E, F, ι, s0, S0, ws, s1, e1, k⟩ := rd
  simp only [evs] at e1
  cases e1
  refine wpAny_Call_Name_kw (ld_glob I g1 q2 ?_ g2)
  exact PySem.W.callWith_K0 I.kIn q3 (q4 X rfl rfl rfl rfl rfl rfl pins s σ H [] [] Q I .nil (k [] F ι H S0 Stp.rfl .nil))
end
end Xp

/-! E8: built-in functions, subscripts, slices, iterables. -/
namespace Xp
open PySem PySem.Spec PyProof.Rows L2
section
variable {g : Gd} {X : Cx} {sc : Scope}
theorem pa1 {A : Expr} {t : TE} (ha : PE X A t) (hn : notStar A = true) : PA X [A] (tCons t tNil) := pa_cons ha pa_nil (star_of hn)
theorem pa2 {A B : Expr} {t u : TE} (ha : PE X A t) (hb : PE X B u) (hn : notStar A = true) (hm : notStar B = true) : PA X [A, B] (tCons t (tCons u tNil)) := pa_cons ha (pa1 hb hm) (star_of hn)
theorem plain0 {env : Env} {pos : Pos} : (backTo pos (starEach [] env)).any (·.1) = false := rfl
theorem plain1 {A : Expr} {env : Env} {pos : Pos} (hn : notStar A = true) : (backTo pos (starEach [A] env)).any (·.1) = false := by
  rw [star_of hn]
  rfl
theorem free_of (O : XOk g X sc) {x : Str} (h : bnames.contains x = true) : X.mg x = none := O.blt x (by simpa using h)
theorem one_r (O : XOk g X sc) {f : U1} {a : Ex} {x : Ex} (he : ∀ s, ev g.cal g.G x s = bd (ev g.cal g.G a s) fun x s1 => on ((x.dat s1.st).bind fun p => un1 f p) s1) :
    ∀ σ H Q, tE g x σ H Q → tCB (rU X.K f) (tCons (tE g a) tNil) σ H Q := fun σ H Q h =>
  one (r1 := fun v H Q => rU X.K f [v] H Q) he (fun F H v p r Q e hp hr k => ⟨v, F, p, r, rfl, e, by rw [O.eK]; exact hp, hr, by rw [O.eK]; exact k⟩) σ H Q h
theorem two_r (O : XOk g X sc) {f : U2} {a b : Ex} {A B : Expr} {x : Ex} (he : ∀ s, ev g.cal g.G x s = bd (ev g.cal g.G a s) fun x s1 => bd (ev g.cal g.G b s1) fun y s2 => on ((x.dat s2.st).bind fun p => (y.dat s2.st).bind fun q => un2 f p q) s2) :
    ∀ σ H Q, tE g x σ H Q → tCB (rU2 X.K f) (tCons (tE g a) (tCons (tE g b) tNil)) σ H Q := fun σ H Q h =>
  two (A := A) (B := B) (r2 := fun v u H Q => rU2 X.K f [v, u] H Q) he (fun F H v u p q r Q e hp hq hr k => ⟨v, u, F, p, q, r, rfl, e, by rw [O.eK]; exact hp, by rw [O.eK]; exact hq, hr, by rw [O.eK]; exact k⟩) σ H Q h
theorem u1_fun (O : XOk g X sc) {f : U1} {a : Ex} {id : String} {nm : Str} {A : Expr} {p pos : Pos} (hc : CallR X (.builtin id) (rU X.K f)) (hv : bootBuiltins nm = some (.builtin id)) (hb : bnames.contains nm = true) (hn : nm ≠ "__name__") (h1 : okG sc nm = true)
    (he : ∀ s, ev g.cal g.G (.u1 f a) s = bd (ev g.cal g.G a s) fun x s1 => on ((x.dat s1.st).bind fun p => un1 f p) s1) (ha : PE X A (tE g a)) (hs : notStar A = true) : PE X (.Call (.Name nm p) [A] [] pos) (tE g (.u1 f a)) := by
  obtain ⟨g1, g2⟩ := okG_gl O h1
  exact PE.weak (pe_callB hc g1 (free_of O hb) hv (pa1 ha hs) hn g2 (star_of hs) plain0) (one_r O he)
theorem u1_ty (O : XOk g X sc) {f : U1} {a : Ex} {T : String} {nm : Str} {A : Expr} {p pos : Pos} (hc : CallR X (.type T) (rU X.K f)) (hv : bootBuiltins nm = some (.type T)) (hb : bnames.contains nm = true) (hn : nm ≠ "__name__") (h1 : okG sc nm = true)
    (he : ∀ s, ev g.cal g.G (.u1 f a) s = bd (ev g.cal g.G a s) fun x s1 => on ((x.dat s1.st).bind fun p => un1 f p) s1) (ha : PE X A (tE g a)) (hs : notStar A = true) : PE X (.Call (.Name nm p) [A] [] pos) (tE g (.u1 f a)) := by
  obtain ⟨g1, g2⟩ := okG_gl O h1
  exact PE.weak (pe_callTy hc g1 (free_of O hb) hv (pa1 ha hs) hn g2 (star_of hs) plain0) (one_r O he)
theorem snd_u1 (O : XOk g X sc) {f : U1} {a : Ex} {nm : Str} {A : Expr} {p pos : Pos} (hf : nm = u1name f) (hne : nm ≠ "") (h1 : okG sc nm = true) (ha : PE X A (tE g a)) (hs : notStar A = true) : PE X (.Call (.Name nm p) [A] [] pos) (tE g (.u1 f a)) := by
  have hu : X.A.units + 70 < cLine := by have := O.room; omega
  subst hf
  cases f with
  | neg => exact absurd rfl hne
  | setsorted => exact absurd rfl hne
  | isT T => exact absurd rfl hne
  | len => exact u1_fun O cu_len PySem.boot_len (by decide +kernel) (by decide +kernel) h1 (fun s => by simp only [ev]) ha hs
  | abs => exact u1_fun O cu_abs (by decide +kernel) (by decide +kernel) (by decide +kernel) h1 (fun s => by simp only [ev]) ha hs
  | maxl => exact u1_fun O (cu_max O.calm) (by decide +kernel) (by decide +kernel) (by decide +kernel) h1 (fun s => by simp only [ev]) ha hs
  | minl => exact u1_fun O (cu_min O.calm) (by decide +kernel) (by decide +kernel) (by decide +kernel) h1 (fun s => by simp only [ev]) ha hs
  | sum => exact u1_fun O (cu_sum O.calm) (by decide +kernel) (by decide +kernel) (by decide +kernel) h1 (fun s => by simp only [ev]) ha hs
  | any => exact u1_fun O (cu_any O.calm) (by decide +kernel) (by decide +kernel) (by decide +kernel) h1 (fun s => by simp only [ev]) ha hs
  | all => exact u1_fun O (cu_all O.calm) (by decide +kernel) (by decide +kernel) (by decide +kernel) h1 (fun s => by simp only [ev]) ha hs
  | sorted => exact u1_fun O cu_sorted (by decide +kernel) (by decide +kernel) (by decide +kernel) h1 (fun s => by simp only [ev]) ha hs
  | repr => exact u1_fun O (cu_repr O.grd hu) (by decide +kernel) (by decide +kernel) (by decide +kernel) h1 (fun s => by simp only [ev]) ha hs
  | list => exact u1_ty O cu_list (by decide +kernel) (by decide +kernel) (by decide +kernel) h1 (fun s => by simp only [ev]) ha hs
  | tuple => exact u1_ty O cu_tuple (by decide +kernel) (by decide +kernel) (by decide +kernel) h1 (fun s => by simp only [ev]) ha hs
  | int => exact u1_ty O cu_int (by decide +kernel) (by decide +kernel) (by decide +kernel) h1 (fun s => by simp only [ev]) ha hs
  | str => exact u1_ty O cu_str (by decide +kernel) (by decide +kernel) (by decide +kernel) h1 (fun s => by simp only [ev]) ha hs
theorem snd_neg (O : XOk g X sc) {a : Ex} {A : Expr} {pos : Pos} (ha : PE X A (tE g a)) : PE X (.UnaryOp .USub A pos) (tE g (.u1 .neg a)) :=
  PE.weak (pe_un un_negR ha) fun σ H Q h => one (r1 := fun v H Q => rU X.K .neg [v] H Q) (fun s => by simp only [ev]) (fun F H v p r Q e hp hr k => ⟨v, F, p, r, rfl, e, by rw [O.eK]; exact hp, hr, by rw [O.eK]; exact k⟩) σ H Q h
theorem ty_boot {T : String} (h : tynames.contains T = true) : bootBuiltins (Str.ofString T) = some (.type T) ∧ bnames.contains (Str.ofString T) = true ∧ Str.ofString T ≠ "__name__" := by
  have : T = "int" ∨ T = "bool" ∨ T = "str" ∨ T = "tuple" ∨ T = "list" := by simpa [tynames] using h
  rcases this with rfl | rfl | rfl | rfl | rfl <;> exact ⟨by decide +kernel, by decide +kernel, by decide +kernel⟩
theorem snd_isT (O : XOk g X sc) {T : String} {a : Ex} {A : Expr} {p p2 pos : Pos} (h1 : okG sc "isinstance" = true) (h2 : okG sc (Str.ofString T) = true) (hT : tynames.contains T = true) (ha : PE X A (tE g a)) (hs : notStar A = true) :
    PE X (.Call (.Name "isinstance" p) [A, .Name (Str.ofString T) p2] [] pos) (tE g (.u1 (.isT T) a)) := by
  obtain ⟨g1, g2⟩ := okG_gl O h1
  obtain ⟨g3, g4⟩ := okG_gl O h2
  obtain ⟨t1, t2, t3⟩ := ty_boot hT
  refine PE.weak (pe_callB (cu_isT T) g1 (free_of O (by decide +kernel)) (by decide +kernel) (pa2 ha (pe_bltn (v := .ty T) g3 (free_of O t2) t1 rfl t3 g4) hs rfl) (by decide +kernel) g2 (star_of hs) (plain1 rfl)) fun σ H Q h => ?_
  exact one (a := a) (f := un1 (.isT T)) (r1 := fun v H Q => (fun xs H Q => ∃ x, xs = [x, .ty T] ∧ rU X.K (.isT T) [x] H Q) [v, .ty T] H Q) (fun s => by simp only [ev]) (fun F H v p r Q e hp hr k => ⟨v, rfl, v, F, p, r, rfl, e, by rw [O.eK]; exact hp, hr, by rw [O.eK]; exact k⟩) σ H Q h
theorem u2_fun (O : XOk g X sc) {f : U2} {a b : Ex} {id : String} {nm : Str} {A B : Expr} {p pos : Pos} (hc : CallR X (.builtin id) (rU2 X.K f)) (hv : bootBuiltins nm = some (.builtin id)) (hb : bnames.contains nm = true) (hn : nm ≠ "__name__") (h1 : okG sc nm = true)
    (he : ∀ s, ev g.cal g.G (.u2 f a b) s = bd (ev g.cal g.G a s) fun x s1 => bd (ev g.cal g.G b s1) fun y s2 => on ((x.dat s2.st).bind fun p => (y.dat s2.st).bind fun q => un2 f p q) s2) (ha : PE X A (tE g a)) (hb2 : PE X B (tE g b)) (hs : notStar A = true) (hs2 : notStar B = true) :
    PE X (.Call (.Name nm p) [A, B] [] pos) (tE g (.u2 f a b)) := by
  obtain ⟨g1, g2⟩ := okG_gl O h1
  exact PE.weak (pe_callB hc g1 (free_of O hb) hv (pa2 ha hb2 hs hs2) hn g2 (star_of hs) (plain1 hs2)) (two_r (A := A) (B := B) O he)
theorem snd_max (O : XOk g X sc) {a b : Ex} {A B : Expr} {p pos : Pos} (h1 : okG sc "max" = true) (ha : PE X A (tE g a)) (hb2 : PE X B (tE g b)) (hs : notStar A = true) (hs2 : notStar B = true) : PE X (.Call (.Name "max" p) [A, B] [] pos) (tE g (.u2 .max a b)) :=
  u2_fun O (cu_max2 O.calm) (by decide +kernel) (by decide +kernel) (by decide +kernel) h1 (fun s => by simp only [ev]) ha hb2 hs hs2
theorem snd_min (O : XOk g X sc) {a b : Ex} {A B : Expr} {p pos : Pos} (h1 : okG sc "min" = true) (ha : PE X A (tE g a)) (hb2 : PE X B (tE g b)) (hs : notStar A = true) (hs2 : notStar B = true) : PE X (.Call (.Name "min" p) [A, B] [] pos) (tE g (.u2 .min a b)) :=
  u2_fun O (cu_min2 O.calm) (by decide +kernel) (by decide +kernel) (by decide +kernel) h1 (fun s => by simp only [ev]) ha hb2 hs hs2
theorem snd_gcd (O : XOk g X sc) {a b : Ex} {A B : Expr} {p pos : Pos} (hgc : X.mg "gcd" = some (.builtin "math.gcd")) (h1 : okG sc "gcd" = true) (ha : PE X A (tE g a)) (hb2 : PE X B (tE g b)) (hs : notStar A = true) (hs2 : notStar B = true) : PE X (.Call (.Name "gcd" p) [A, B] [] pos) (tE g (.u2 .gcd a b)) := by
  obtain ⟨g1, g2⟩ := okG_gl O h1
  exact PE.weak (pe_callBfun (cu_gcd O.calm) g1 hgc (pa2 ha hb2 hs hs2) g2 (star_of hs) (plain1 hs2)) (two_r (f := .gcd) (A := A) (B := B) O (fun s => by simp only [ev]))
theorem base_const {o : Expr} {n : Str} {env : Env} (h : isConst o = true) : attributeBase o n env (eval o env) = eval o env := by
  cases o <;> first | rfl | cases h
theorem snd_join (O : XOk g X sc) {a b : Ex} {A B : Expr} {apos pos : Pos} (hc : isConst A = true) (hl : (apos.endLine == pos.line) = true) (ha : PE X A (tE g a)) (hb : PE X B (tE g b)) (hs : notStar B = true) : PE X (.Call (.Attribute A "join" apos) [B] [] pos) (tE g (.u2 .join a b)) := by
  refine PE.weak (pe_m1 PySem.F.slot_str_join PySem.F.type_str_join op_join ha hb (star_of hs) (base_const hc) hl) fun σ H Q ⟨E, F, ι, s, S0, r, s', h1, k⟩ => ?_
  simp only [ev] at h1
  replace h1 := bd_some h1
  obtain ⟨r1, s1, e1, h1⟩ := h1
  replace h1 := bd_some h1
  obtain ⟨r2, s2, e2, h1⟩ := h1
  obtain ⟨h2, e9⟩ := on_some h1
  subst e9
  rw [Option.bind_eq_some_iff] at h2
  obtain ⟨p, d1, h2⟩ := h2
  rw [Option.bind_eq_some_iff] at h2
  obtain ⟨q, d2, h2⟩ := h2
  have hstr : ∃ z, p = .str z := by cases p <;> first | exact ⟨_, rfl⟩ | (cases q <;> cases h2)
  obtain ⟨z, rfl⟩ := hstr
  refine tE.go S0 e1 fun v F1 ι1 H1 S1 st1 rr1 f1 => ⟨?_, tE.go S1 e2 fun u F2 ι2 H2 S2 st2 rr2 f2 => ?_⟩
  · -- a text: its kind does not hang on the shared lists
    cases rr1 with
    | w q =>
      cases q with
      | @d v x q =>
        have e0 : x = .str z := Option.some.inj d1
        subst e0
        cases q
        exact ⟨_, rfl⟩
      | cell q =>
        simp only [R.dat, Option.map_eq_some_iff] at d1
        obtain ⟨_, _, d1⟩ := d1
        cases d1
      | fn q => cases d1
      | known q => cases d1
    | own q => cases d1
    | bor q => cases d1
  · refine ⟨u, rfl, v, u, F2, .str z, q, r, rfl, S2.sub, by rw [O.eK]; exact rr1.later S1 f1 st2 S2 _ d1, by rw [O.eK]; exact S2.rv rr2 d2, h2, fun w H' m => ?_⟩
    rw [O.eK] at m
    obtain ⟨F3, S3, st3, rr3, f3⟩ := S2.made m
    exact k w F3 ι2 H' S3 ((st1.trans st2).trans st3) rr3 f3

/-! ### subscripts, slices -/
theorem plainIx {B : Expr} (h : notSlice B = true) : PlainIx B := fun o i => by cases B <;> first | rfl | cases h
theorem snd_ix (O : XOk g X sc) {a b : Ex} {A B : Expr} {pos : Pos} (ha : PE X A (tE g a)) (hb : PE X B (tE g b)) (hs : notSlice B = true) : PE X (.Subscript A B pos) (tE g (.ix a b)) :=
  PE.weak (pe_ix op_ix ha hb (plainIx hs)) (two (A := A) (B := B) (f := ix2) (fun s => by simp only [ev]) fun F H v u p q r Q e hp hq hr k => ⟨F, p, q, r, e, by rw [O.eK]; exact hp, by rw [O.eK]; exact hq, hr, by rw [O.eK]; exact k⟩)
theorem snd_nopart : PO X none (tPa g .nopart) := PO.weak po_none fun σ H Q ⟨E, F, ι, s, S0, o, s', h1, k⟩ => by
  simp only [evp] at h1
  cases h1
  exact k F ι H S0 Stp.rfl
theorem evp_ne {x : Ex} (h : x ≠ .nopart) {cal : Nat → List W → List Cell → Option (R × List Cell)} {G : List PyData} {s : S} : evp cal G x s = bd (ev cal G x s) fun x s1 => on ((asI s1.st x).map some) s1 := by
  cases x <;> first | exact absurd rfl h | simp only [evp]
theorem snd_part {a : Ex} {A : Expr} (hx : a ≠ .nopart) (ha : PE X A (tE g a)) : PO X (some A) (tPa g a) := PO.weak (po_some ha) fun σ H Q ⟨E, F, ι, s, S0, o, s', h1, k⟩ => by
  rw [evp_ne hx] at h1
  replace h1 := bd_some h1
  obtain ⟨r1, s1, e1, h1⟩ := h1
  obtain ⟨h2, e9⟩ := on_some h1
  subst e9
  rw [Option.map_eq_some_iff] at h2
  obtain ⟨i, d1, e0⟩ := h2
  subst e0
  exact tE.go S0 e1 fun v F1 ι1 H1 S1 st1 rr1 f1 => ⟨i, (S1.rv rr1 (asI_dat d1)).int, k F1 ι1 H1 S1 st1⟩
theorem snd_sl (O : XOk g X sc) {a lo hi : Ex} {A : Expr} {l h : Option Expr} {p2 pos : Pos} (ha : PE X A (tE g a)) (hl : PO X l (tPa g lo)) (hh : PO X h (tPa g hi)) : PE X (.Subscript A (.Slice l h none p2) pos) (tE g (.sl a lo hi)) := by
  refine PE.weak (pe_slice op_sl ha hl hh) fun σ H Q ⟨E, F, ι, s, S0, r, s', h1, k⟩ => ?_
  simp only [ev] at h1
  replace h1 := bd_some h1
  obtain ⟨r1, s1, e1, h1⟩ := h1
  replace h1 := bd_some h1
  obtain ⟨o1, s2, e2, h1⟩ := h1
  replace h1 := bd_some h1
  obtain ⟨o2, s3, e3, h1⟩ := h1
  obtain ⟨h2, e9⟩ := on_some h1
  subst e9
  rw [Option.bind_eq_some_iff] at h2
  obtain ⟨p, d1, h2⟩ := h2
  refine tE.go S0 e1 fun v F1 ι1 H1 S1 st1 rr1 f1 => ⟨E, F1, ι1, s1, S1, o1, s2, e2, fun F2 ι2 H2 S2 st2 => ⟨E, F2, ι2, s2, S2, o2, _, e3, fun F3 ι3 H3 S3 st3 => ?_⟩⟩
  refine ⟨F3, p, r, S3.sub, by rw [O.eK]; exact rr1.later S1 f1 (st2.trans st3) S3 _ d1, h2, fun w H' m => ?_⟩
  rw [O.eK] at m
  obtain ⟨F4, S4, st4, rr4, f4⟩ := S3.made m
  exact k w F4 ι3 H' S4 (((st1.trans st2).trans st3).trans st4) rr4 f4
/-- list(x) of the known list -/
theorem snd_scr (O : XOk g X sc) {a : Ex} {A : Expr} {p pos : Pos} (h1 : okG sc "list" = true) (ha : PE X A (tE g a)) (hs : notStar A = true) : PE X (.Call (.Name "list" p) [A] [] pos) (tE g (.scr a)) := by
  obtain ⟨g1, g2⟩ := okG_gl O h1
  refine PE.weak (pe_callTy call_list_of g1 (free_of O (by decide +kernel)) (by decide +kernel) (pa1 ha hs) (by decide +kernel) g2 (star_of hs) plain0) fun σ H Q ⟨E, F, ι, s, S0, r, s', h1, k⟩ => ?_
  simp only [ev] at h1
  replace h1 := bd_some h1
  obtain ⟨r1, s1, e1, h1⟩ := h1
  obtain ⟨h2, e9⟩ := on_some h1
  subst e9
  split at h2
  · cases h2
    refine tE.go S0 e1 fun v F1 ι1 H1 S1 st1 rr1 f1 => ?_
    cases rr1 with
    | w q =>
      cases q with
      | @known a0 _ q =>
        refine ⟨a0, _, rfl, .inl (by rw [O.eK]; exact S1.sub.seq q), fun l hl => ?_⟩
        obtain ⟨F3, S3, st3, rr3, f3⟩ := S1.made (Mk.lst hl dqa_of_ints)
        exact k _ F3 ι1 _ S3 (st1.trans st3) rr3 f3
  · cases h2
end
end Xp

/-! E9: targets, iterables, comprehensions. -/
namespace Xp
open PySem PySem.Spec PyProof.Rows L2
section
variable {g : Gd} {X : Cx} {sc : Scope}

/-! ### targets -/
theorem Stt.setW {K : PySem.W.Frag} {fa : Nat → Option Addr} {E : Ent} {F H : Hp} {ι : List Addr} {s : S} {σ : L2.St} (S0 : Stt K fa E F ι s σ H) {v : V} {w : W} {i : Nat} (q : RW K fa F ι v w) (il : i < s.sl.length) :
    Stt K fa E F ι ⟨s.sl.set i (some (.w w)), s.st⟩ (σ.set i (some v)) H := by
  have iσ : i < σ.length := by rw [S0.len]; exact il
  have ne : ∀ j (r : R), (s.sl.set i (some (.w w)))[j]? = some (some r) → (j = i ∧ r = .w w) ∨ (j ≠ i ∧ s.sl[j]? = some (some r)) := fun j r hj => by
    by_cases e : i = j
    · subst e
      rw [List.getElem?_set_self il] at hj
      cases hj
      exact .inl ⟨rfl, rfl⟩
    · rw [List.getElem?_set_ne e] at hj
      exact .inr ⟨fun z => e z.symm, hj⟩
  have neo : ∀ j ys, OwnAt ⟨s.sl.set i (some (.w w)), s.st⟩ j ys → j ≠ i ∧ OwnAt s j ys := fun j ys o' => by
    rcases ne j _ o' with ⟨_, z⟩ | z
    · cases z
    · exact z
  refine { sub := S0.sub, step := S0.step, nofz := S0.nofz, len := by simp [S0.len], slot := fun j r hj => ?_, new := fun j ys b o' hb => ?_, dist := fun j l ys zs hjl o1 o2 => ?_, st := S0.st, nfz := S0.nfz, stl := S0.stl, nd := S0.nd, res := fun b hb => ?_ }
  · rcases ne j r hj with ⟨rfl, rfl⟩ | ⟨n1, n2⟩
    · exact ⟨v, List.getElem?_set_self iσ, .w q, fun _ z => by cases z⟩
    · obtain ⟨u, q1, q2, q3⟩ := S0.slot j r n2
      exact ⟨u, by rw [List.getElem?_set_ne (Ne.symm n1)]; exact q1, q2, q3⟩
  · obtain ⟨n1, n2⟩ := neo j ys o'
    rw [List.getElem?_set_ne (Ne.symm n1)] at hb
    exact S0.new j ys b n2 hb
  · obtain ⟨n1, n2⟩ := neo j ys o1
    obtain ⟨n3, n4⟩ := neo l zs o2
    rw [List.getElem?_set_ne (Ne.symm n1), List.getElem?_set_ne (Ne.symm n3)]
    exact S0.dist j l ys zs hjl n2 n4
  · obtain ⟨h1, h2, h3, h4⟩ := S0.res b hb
    refine ⟨h1, h2, h3, fun j ys o' => ?_⟩
    obtain ⟨n1, n2⟩ := neo j ys o'
    rw [List.getElem?_set_ne (Ne.symm n1)]
    exact h4 j ys n2
theorem wipe_get : ∀ (vs : List Nat) (σ : L2.St) (j : Nat), (L2.wipe σ vs)[j]? = if j ∈ vs then (σ[j]?).map (fun _ => none) else σ[j]?
  | [], σ, j => by simp [L2.wipe]
  | v :: vs, σ, j => by
    unfold L2.wipe
    rw [List.getElem?_set, wipe_get vs σ j]
    by_cases e : v = j
    · subst e
      rw [if_pos rfl, if_pos List.mem_cons_self, L2.wipe_length]
      by_cases c : v < σ.length
      · rw [if_pos c, List.getElem?_eq_getElem c]
        rfl
      · rw [if_neg c, List.getElem?_eq_none (by omega)]
        rfl
    · rw [if_neg e]
      have : (j ∈ v :: vs) = (j ∈ vs) := by simp [Ne.symm e]
      simp only [this]
theorem wipe_set {σ : L2.St} {i : Nat} {x : Option V} {ws : List Nat} (h : i ∈ ws) : L2.wipe (σ.set i x) ws = L2.wipe σ ws := by
  apply List.ext_getElem?
  intro j
  rw [wipe_get, wipe_get]
  by_cases c : j ∈ ws
  · rw [if_pos c, if_pos c, List.getElem?_set]
    by_cases e : i = j
    · subst e
      rw [if_pos rfl]
      by_cases l : i < σ.length
      · rw [if_pos l, List.getElem?_eq_getElem l]
        rfl
      · rw [if_neg l, List.getElem?_eq_none (by omega)]
    · rw [if_neg e]
  · rw [if_neg c, if_neg c, List.getElem?_set_ne]
    rintro rfl
    exact c h
theorem bindT_len : ∀ (tg : Tg) (x : PyData) {l l2 : List (Option R)}, bindT tg x l = some l2 → l2.length = l.length
  | .v i, x, l, l2, h => by
    simp only [bindT] at h
    obtain ⟨c, h⟩ := ite_some h
    rw [← h]
    simp
  | .nil, .tuple [], l, l2, h => by
    simp only [bindT] at h
    cases h
    rfl
  | .cons t r, .tuple (x :: xs), l, l2, h => by
    simp only [bindT, Option.bind_eq_some_iff] at h
    obtain ⟨l3, h1, h2⟩ := h
    rw [bindT_len r _ h2, bindT_len t _ h1]
  | .nil, .tuple (_ :: _), _, _, h => by simp [bindT] at h
  | .nil, .none, _, _, h => by simp [bindT] at h
  | .nil, .bool _, _, _, h => by simp [bindT] at h
  | .nil, .int _, _, _, h => by simp [bindT] at h
  | .nil, .str _, _, _, h => by simp [bindT] at h
  | .nil, .list _, _, _, h => by simp [bindT] at h
  | .nil, .dict _, _, _, h => by simp [bindT] at h
  | .cons _ _, .tuple [], _, _, h => by simp [bindT] at h
  | .cons _ _, .none, _, _, h => by simp [bindT] at h
  | .cons _ _, .bool _, _, _, h => by simp [bindT] at h
  | .cons _ _, .int _, _, _, h => by simp [bindT] at h
  | .cons _ _, .str _, _, _, h => by simp [bindT] at h
  | .cons _ _, .list _, _, _, h => by simp [bindT] at h
  | .cons _ _, .dict _, _, _, h => by simp [bindT] at h
/-- the names of a scope may be stored -/
def Sto (X : Cx) (sc : Scope) : Prop := ∀ x, (sc.names.lookup x = some .local → X.env.scope.names.lookup x = some .local) ∧ (sc.names.lookup x = some .cell → X.env.scope.names.lookup x = some .cell ∧ X.fn x = true)
theorem asg_of {e : Expr} {es : List Expr} {env : Env} (h : notStar e = true) : assignEach (e :: es) env = (false, assign e env) :: assignEach es env := by
  cases e <;> first | rfl | cases h
theorem asg_plain {N : List Str} : ∀ (tg : Tg) (es : List Expr) {env : Env}, chkTs N tg sc es = true → (assignEach es env).length = es.length ∧ (assignEach es env).findIdx? (·.1) = none
  | .nil, es, env, h => by
    simp only [chkTs, List.isEmpty_iff] at h
    subst h
    exact ⟨rfl, rfl⟩
  | .cons t r, [], env, h => by simp [chkTs] at h
  | .cons t r, e :: es, env, h => by
    rw [chkTs_cons] at h
    simp only [Bool.and_eq_true] at h
    obtain ⟨h1, h2⟩ := asg_plain r es (env := env) h.1.2
    rw [asg_of h.2, List.length_cons, List.length_cons, h1, List.findIdx?_cons, h2]
    exact ⟨rfl, rfl⟩
  | .v i, es, env, h => by simp [chkTs] at h
theorem bindT_tup : ∀ (tg : Tg) (es : List Expr) {N : List Str} {xs : List PyData} {l l2 : List (Option R)}, chkTs N tg sc es = true → bindT tg (.tuple xs) l = some l2 → xs.length = es.length
  | .nil, es, N, xs, l, l2, hc, h => by
    simp only [chkTs, List.isEmpty_iff] at hc
    subst hc
    cases xs with
    | nil => rfl
    | cons a b => simp [bindT] at h
  | .cons t r, [], N, xs, l, l2, hc, h => by simp [chkTs] at hc
  | .cons t r, e :: es, N, xs, l, l2, hc, h => by
    rw [chkTs_cons] at hc
    simp only [Bool.and_eq_true] at hc
    cases xs with
    | nil => simp [bindT] at h
    | cons a b =>
      simp only [bindT, Option.bind_eq_some_iff] at h
      obtain ⟨l3, h1, h2⟩ := h
      rw [List.length_cons, List.length_cons, bindT_tup r es hc.1.2 h2]
  | .v i, es, N, xs, l, l2, hc, h => by simp [chkTs] at hc
theorem bindT_isTup : ∀ (tg : Tg) (x : PyData) {l l2 : List (Option R)}, (∀ i, tg ≠ .v i) → bindT tg x l = some l2 → ∃ xs, x = .tuple xs := by
  intro tg x l l2 hn h
  cases tg with
  | v i => exact absurd rfl (hn i)
  | nil => cases x <;> first | exact ⟨_, rfl⟩ | simp [bindT] at h
  | cons t r => cases x <;> first | exact ⟨_, rfl⟩ | simp [bindT] at h
theorem snd_tgv (O : XOk g X sc) {sc0 : Scope} (B : Sto X sc0) {i : Nat} {e : Expr} (h : chkV g.N i sc0 e = true) : PG X e (gT g (.v i)) := by
  unfold chkV at h
  split at h
  · rename_i x pos
    simp only [Bool.and_eq_true, decide_eq_true_eq] at h
    have hx : sc0.names.lookup x = some .local ∨ sc0.names.lookup x = some .cell := by
      have h2 := h.2
      split at h2
      · exact .inl (by assumption)
      · exact .inr (by assumption)
      · cases h2
    have hf : Loc X.env.scope x ∧ (X.fn x = true ∨ X.env.scope.names.lookup x = some .local) := by
      rcases hx with q | q
      · have := (B x).1 q
        exact ⟨.inl this, .inr this⟩
      · have := (B x).2 q
        exact ⟨.inr this.1, .inl this.2⟩
    refine PG.weak (pg_name O.nd (by rw [O.eN]; exact h.1) hf.1 hf.2) fun v σ H Q ⟨E, F, ι, s, d, S0, hd, l, hb, k⟩ => ?_
    simp only [bindT] at hb
    obtain ⟨c, hb⟩ := ite_some hb
    subst hb
    exact k _ (S0.setW (.d hd) c) fun ws hw => wipe_set (hw i (by simp [tgv]))
  · cases h
theorem tg_of (O : XOk g X sc) {sc0 : Scope} {tg : Tg} {es : List Expr} {k0 : Nat} {pos : Pos} (hn : ∀ i, tg ≠ .v i) (h : chkTs g.N tg sc0 es = true) (ih : PGs X es (gTs g tg)) : PG X (.Tuple es k0 pos) (gT g tg) := by
  obtain ⟨h1, h2⟩ := asg_plain (sc := sc0) tg es (env := X.env) h
  refine PG.weak (pg_tup O.calm ih rfl h2) fun v σ H Q ⟨E, F, ι, s, d, S0, hd, l, hb, k⟩ => ?_
  obtain ⟨xs, rfl⟩ := bindT_isTup tg d hn hb
  cases hd with
  | tup q r => exact ⟨_, _, rfl, by rw [O.eK]; exact sqT_mono S0.sub q, by rw [h1, dpa_len r]; exact bindT_tup tg es h hb, E, F, ι, s, xs, S0, r, l, hb, k⟩
theorem snd_tgs (O : XOk g X sc) {sc0 : Scope} (B : Sto X sc0) : ∀ (tg : Tg) (es : List Expr), chkTs g.N tg sc0 es = true → PGs X es (gTs g tg)
  | .nil, es, h => by
    simp only [chkTs, List.isEmpty_iff] at h
    subst h
    refine ⟨fun pins s σ H vs us Q I r q => pgs_nil.run pins s σ H vs us Q I r ?_⟩
    obtain ⟨E, F, ι, s, xs, S0, hd, l, hb, k⟩ := q
    cases xs with
    | nil =>
      simp only [bindT] at hb
      cases hb
      cases hd
      exact ⟨rfl, k σ S0 fun _ _ => rfl⟩
    | cons a b => simp [bindT] at hb
  | .cons t r, [], h => by simp [chkTs] at h
  | .cons t r, e :: es, h => by
    have iht := fun l => snd_tgs O B t l
    have ihr := snd_tgs O B r es
    rw [chkTs_cons] at h
    simp only [Bool.and_eq_true] at h
    have pt : PG X e (gT g t) := by
      have h1 := h.1.1
      cases t with
      | v i => exact snd_tgv O B h1
      | nil =>
        simp only [chkT] at h1
        split at h1
        · exact tg_of O (fun i z => by cases z) h1 (iht _ h1)
        · cases h1
      | cons t1 t2 =>
        simp only [chkT] at h1
        split at h1
        · exact tg_of O (fun i z => by cases z) h1 (iht _ h1)
        · cases h1
    refine ⟨fun pins s σ H vs us Q I rr q => (pgs_cons pt (ihr h.1.2) (by rw [asg_of h.2]; rfl)).run pins s σ H vs us Q I rr ?_⟩
    obtain ⟨E, F, ι, s, xs, S0, hd, l, hb, k⟩ := q
    cases xs with
    | nil => simp [bindT] at hb
    | cons a b =>
      simp only [bindT, Option.bind_eq_some_iff] at hb
      obtain ⟨l3, h1, h2⟩ := hb
      cases hd with
      | cons d1 d2 => exact ⟨_, _, rfl, E, F, ι, s, a, S0, d1, l3, h1, fun σ' S1 w1 => ⟨E, F, ι, ⟨l3, s.st⟩, b, S1, d2, l, h2, fun σ2 S2 w2 => k σ2 S2 fun ws hw => (w2 ws fun i hi => hw i (by simp [tgv, hi])).trans (w1 ws fun i hi => hw i (by simp [tgv, hi]))⟩⟩
  | .v i, es, h => by simp [chkTs] at h
theorem snd_tg (O : XOk g X sc) {sc0 : Scope} (B : Sto X sc0) (t : Tg) (e : Expr) (h1 : chkT g.N t sc0 e = true) : PG X e (gT g t) := by
  cases t with
  | v i => exact snd_tgv O B h1
  | nil =>
    simp only [chkT] at h1
    split at h1
    · exact tg_of O (fun i z => by cases z) h1 (snd_tgs O B _ _ h1)
    · cases h1
  | cons t1 t2 =>
    simp only [chkT] at h1
    split at h1
    · exact tg_of O (fun i z => by cases z) h1 (snd_tgs O B _ _ h1)
    · cases h1

/-! ### iterables -/
theorem it_list {K : PySem.W.Frag} {F : Hp} {a : Addr} {vs : List V} {xs : List PyData} (h : F a = some (.lst vs)) (q : DqAll K F vs xs) : ItOk K F (Itl K a) xs := fun H e => by
  refine ⟨fun i x hx => ?_, ⟨vs, SqL.of (e _ _ h), by rw [dpa_len q]; exact Nat.le_refl _⟩⟩
  obtain ⟨v, h1, h2⟩ := dpa_get q hx
  refine ⟨⟨vs, v, SqL.of (e _ _ h), h1⟩, fun w H' y => ?_⟩
  obtain ⟨e1, y⟩ := y
  subst e1
  have := y vs (SqL.of (e _ _ h))
  rw [h1] at this
  cases this
  exact .old h2
theorem it_tup {K : PySem.W.Frag} {F : Hp} {a : Addr} {vs : List V} {xs : List PyData} (h : SqT K F a vs) (q : DqAll K F vs xs) : ItOk K F (Itt K a) xs := fun H e => by
  have hT := sqT_mono e h
  refine ⟨fun i x hx => ?_, ⟨vs, hT, by rw [dpa_len q]; exact Nat.le_refl _⟩⟩
  obtain ⟨v, h1, h2⟩ := dpa_get q hx
  refine ⟨⟨vs, v, hT, h1⟩, fun w H' y => ?_⟩
  obtain ⟨e1, y⟩ := y
  subst e1
  have := y vs hT
  rw [h1] at this
  cases this
  exact .old h2
theorem rngD_get : ∀ (n : Nat) (lo : Int) (i : Nat) (x : PyData), (rngD lo n)[i]? = some x → i < n ∧ x = .int (lo + i)
  | 0, lo, i, x, h => by simp [rngD] at h
  | n + 1, lo, 0, x, h => by
    simp [rngD] at h
    subst h
    simp
  | n + 1, lo, i + 1, x, h => by
    obtain ⟨h1, h2⟩ := rngD_get n (lo + 1) i x (by simpa [rngD] using h)
    refine ⟨by omega, ?_⟩
    rw [h2]
    congr 1
    omega
theorem rngD_len : ∀ (n : Nat) (lo : Int), (rngD lo n).length = n
  | 0, _ => rfl
  | n + 1, lo => by rw [rngD, List.length_cons, rngD_len n]
theorem it_rng {K : PySem.W.Frag} {F : Hp} (lo : Int) (n : Nat) : ItOk K F (Itr lo n) (rngD lo n) := fun H e => by
  refine ⟨fun i x hx => ?_, by rw [rngD_len]; exact Nat.le_refl _⟩
  obtain ⟨h1, rfl⟩ := rngD_get n lo i x hx
  refine ⟨h1, fun w H' y => ?_⟩
  obtain ⟨rfl, rfl⟩ := y
  exact .old (.int _)
theorem enumD_get : ∀ (xs : List PyData) (k : Int) (i : Nat) (x : PyData), (enumD k xs)[i]? = some x → ∃ y, xs[i]? = some y ∧ x = .tuple [.int (k + i), y]
  | [], k, i, x, h => by simp [enumD] at h
  | a :: r, k, 0, x, h => by
    simp [enumD] at h
    subst h
    exact ⟨a, rfl, by simp⟩
  | a :: r, k, i + 1, x, h => by
    obtain ⟨y, h1, h2⟩ := enumD_get r (k + 1) i x (by simpa [enumD] using h)
    refine ⟨y, by simpa using h1, ?_⟩
    rw [h2, show k + 1 + (i : Int) = k + ((i + 1 : Nat) : Int) by omega]
theorem enumD_len : ∀ (xs : List PyData) (k : Int), (enumD k xs).length = xs.length
  | [], _ => rfl
  | a :: r, k => by rw [enumD, List.length_cons, enumD_len r, List.length_cons]
theorem it_enum {K : PySem.W.Frag} {F : Hp} {a : Addr} {vs : List V} {xs : List PyData} (h : F a = some (.lst vs)) (q : DqAll K F vs xs) : ItOk K F (Ite K a) (enumD 0 xs) := fun H e => by
  refine ⟨fun i x hx => ?_, ⟨vs, SqL.of (e _ _ h), by rw [enumD_len, dpa_len q]; exact Nat.le_refl _⟩⟩
  obtain ⟨y, hy, rfl⟩ := enumD_get xs 0 i x hx
  obtain ⟨v, h1, h2⟩ := dpa_get q hy
  refine ⟨⟨vs, v, SqL.of (e _ _ h), h1⟩, fun w H' yy => ?_⟩
  obtain ⟨T, z, rfl, nT, rfl, y2⟩ := yy
  have := y2 vs (SqL.of (e _ _ h))
  rw [h1] at this
  cases this
  rw [show (0 : Int) + (i : Int) = ((i : Nat) : Int) by omega]
  exact .tup nT (.cons (.int _) (.cons h2 .nil))
theorem zipD_get : ∀ (xs ys : List PyData) (i : Nat) (x : PyData), (zipD xs ys)[i]? = some x → ∃ y z, xs[i]? = some y ∧ ys[i]? = some z ∧ x = .tuple [y, z]
  | [], _, i, x, h => by simp [zipD] at h
  | _ :: _, [], i, x, h => by simp [zipD] at h
  | a :: r, b :: q, 0, x, h => by
    simp [zipD] at h
    subst h
    exact ⟨a, b, rfl, rfl, rfl⟩
  | a :: r, b :: q, i + 1, x, h => by
    obtain ⟨y, z, h1, h2, h3⟩ := zipD_get r q i x (by simpa [zipD] using h)
    exact ⟨y, z, by simpa using h1, by simpa using h2, h3⟩
theorem zipD_len : ∀ (xs ys : List PyData), xs.length ≤ (zipD xs ys).length ∨ ys.length ≤ (zipD xs ys).length
  | [], _ => .inl (Nat.zero_le _)
  | _ :: _, [] => .inr (Nat.zero_le _)
  | a :: r, b :: q => by
    rw [zipD, List.length_cons, List.length_cons, List.length_cons]
    rcases zipD_len r q with h | h
    · exact .inl (by omega)
    · exact .inr (by omega)
theorem it_zipL {K : PySem.W.Frag} {F : Hp} {a b : Addr} {vs us : List V} {xs ys : List PyData} (h : F a = some (.lst vs)) (q : DqAll K F vs xs) (h' : F b = some (.lst us)) (q' : DqAll K F us ys) : ItOk K F (Itz K a b) (zipD xs ys) := fun H e => by
  have e1 : SqL K H a vs := SqL.of (e _ _ h)
  have e2 : SqL K H b us := SqL.of (e _ _ h')
  refine ⟨fun i x hx => ?_, ⟨vs, us, e1, e2, by rw [dpa_len q, dpa_len q']; exact zipD_len xs ys⟩⟩
  obtain ⟨y, z, hy, hz, rfl⟩ := zipD_get xs ys i x hx
  obtain ⟨v, h1, h2⟩ := dpa_get q hy
  obtain ⟨u, h3, h4⟩ := dpa_get q' hz
  refine ⟨⟨vs, us, v, u, e1, e2, h1, h3⟩, fun w H' yy => ?_⟩
  obtain ⟨T, x1, x2, rfl, nT, rfl, y1, y2⟩ := yy
  have k1 := y1 vs e1
  have k2 := y2 us e2
  rw [h1] at k1
  rw [h3] at k2
  cases k1
  cases k2
  exact .tup nT (.cons h2 (.cons h4 .nil))
theorem it_zipT {K : PySem.W.Frag} {F : Hp} {a b : Addr} {vs us : List V} {xs ys : List PyData} (h : SqT K F a vs) (q : DqAll K F vs xs) (h' : SqT K F b us) (q' : DqAll K F us ys) : ItOk K F (RZ.ItzT K a b) (zipD xs ys) := fun H e => by
  have e1 := sqT_mono e h
  have e2 := sqT_mono e h'
  refine ⟨fun i x hx => ?_, ⟨vs, us, e1, e2, by rw [dpa_len q, dpa_len q']; exact zipD_len xs ys⟩⟩
  obtain ⟨y, z, hy, hz, rfl⟩ := zipD_get xs ys i x hx
  obtain ⟨v, h1, h2⟩ := dpa_get q hy
  obtain ⟨u, h3, h4⟩ := dpa_get q' hz
  refine ⟨⟨vs, us, v, u, e1, e2, h1, h3⟩, fun w H' yy => ?_⟩
  obtain ⟨T, x1, x2, rfl, nT, rfl, y1, y2⟩ := yy
  have k1 := y1 vs e1
  have k2 := y2 us e2
  rw [h1] at k1
  rw [h3] at k2
  cases k1
  cases k2
  exact .tup nT (.cons h2 (.cons h4 .nil))
/-- how an iterable's value is frozen, ahead of its walk -/
theorem snd_seq (O : XOk g X sc) {tg : Expr} {a : Ex} {A : Expr} (ha : PE X A (tE g a)) : PI X tg A (tI g (.seq a)) := by
  refine ⟨fun pins st σ H P I ⟨E, F, ι, s, S0, xs, s', h1, k⟩ => ?_⟩
  simp only [evi] at h1
  replace h1 := bd_some h1
  obtain ⟨r1, s1, e1, h1⟩ := h1
  replace h1 := bd_some h1
  obtain ⟨w, s2, e2, h1⟩ := h1
  obtain ⟨e3, e9⟩ := on_some e2
  subst e9
  obtain ⟨h2, e9⟩ := on_some h1
  subst e9
  split at h2
  · cases h2
    refine (pi_list ha).run pins st σ H P I ?_
    refine tE.go S0 e1 fun v F1 ι1 H1 S1 st1 rr1 f1 => ?_
    obtain ⟨F2, S2, st2, q2⟩ := S1.froze rr1 f1 e3
    cases q2 with
    | d q => cases q with | lst q r => exact ⟨_, rfl, ⟨_, SqL.of (S2.sub _ _ q)⟩, by rw [O.eK]; exact k _ F2 ι1 H1 S2 (st1.trans st2) (it_list q r)⟩
  · cases h2
    refine (pi_tup ha).run pins st σ H P I ?_
    refine tE.go S0 e1 fun v F1 ι1 H1 S1 st1 rr1 f1 => ?_
    obtain ⟨F2, S2, st2, q2⟩ := S1.froze rr1 f1 e3
    cases q2 with
    | d q => cases q with | tup q r => exact ⟨_, rfl, ⟨_, by rw [O.eK]; exact sqT_mono S2.sub q⟩, by rw [O.eK]; exact k _ F2 ι1 H1 S2 (st1.trans st2) (it_tup q r)⟩
  · cases h2
theorem snd_rng1 (O : XOk g X sc) {tg : Expr} {a : Ex} {A : Expr} {p pos : Pos} (h1 : okG sc "range" = true) (ha : PE X A (tE g a)) (hs : notStar A = true) : PI X tg (.Call (.Name "range" p) [A] [] pos) (tI g (.rng1 a)) := by
  obtain ⟨g1, g2⟩ := okG_gl O h1
  refine PI.weak (pi_range1 g1 (free_of O (by decide +kernel)) (pa1 ha hs) (by rw [star_of hs]; rfl)) fun σ H P ⟨E, F, ι, s, S0, xs, s', h1, k⟩ => ?_
  simp only [evi] at h1
  replace h1 := bd_some h1
  obtain ⟨r1, s1, e1, h1⟩ := h1
  obtain ⟨h2, e9⟩ := on_some h1
  subst e9
  rw [Option.bind_eq_some_iff] at h2
  obtain ⟨j, d1, h2⟩ := h2
  obtain ⟨c, h2⟩ := ite_some h2
  subst h2
  refine tE.go S0 e1 fun v F1 ι1 H1 S1 st1 rr1 f1 => ⟨j, by rw [(S1.rv rr1 (asI_dat d1)).int], by omega, by omega, k _ F1 ι1 H1 S1 st1 (it_rng 0 _)⟩
theorem snd_rng2 (O : XOk g X sc) {tg : Expr} {a b : Ex} {A B : Expr} {p pos : Pos} (h1 : okG sc "range" = true) (ha : PE X A (tE g a)) (hb : PE X B (tE g b)) (hs : notStar A = true) (hs2 : notStar B = true) : PI X tg (.Call (.Name "range" p) [A, B] [] pos) (tI g (.rng2 a b)) := by
  obtain ⟨g1, g2⟩ := okG_gl O h1
  refine PI.weak (pi_range2 g1 (free_of O (by decide +kernel)) (pa2 ha hb hs hs2) (by rw [star_of hs, star_of hs2]; rfl) (by rw [star_of hs2]; rfl)) fun σ H P ⟨E, F, ι, s, S0, xs, s', h1, k⟩ => ?_
  simp only [evi] at h1
  replace h1 := bd_some h1
  obtain ⟨r1, s1, e1, h1⟩ := h1
  replace h1 := bd_some h1
  obtain ⟨i, s2, e2, h1⟩ := h1
  obtain ⟨e3, e9⟩ := on_some e2
  subst e9
  replace h1 := bd_some h1
  obtain ⟨r2, s3, e4, h1⟩ := h1
  obtain ⟨h2, e9⟩ := on_some h1
  subst e9
  rw [Option.bind_eq_some_iff] at h2
  obtain ⟨j, d1, h2⟩ := h2
  obtain ⟨c, h2⟩ := ite_some h2
  subst h2
  refine tE.go S0 e1 fun v F1 ι1 H1 S1 st1 rr1 f1 => ?_
  rw [(S1.rv rr1 (asI_dat e3)).int]
  refine tE.go S1 e4 fun u F2 ι2 H2 S2 st2 rr2 f2 => ⟨i, j, by rw [(S2.rv rr2 (asI_dat d1)).int], ⟨by omega, by omega, by omega, by omega⟩, k _ F2 ι2 H2 S2 (st1.trans st2) (it_rng i _)⟩
theorem snd_enum (O : XOk g X sc) {es : List Expr} {kk : Nat} {tpos : Pos} {a : Ex} {A : Expr} {p pos : Pos} (h1 : okG sc "enumerate" = true) (ha : PE X A (tE g a)) (hs : notStar A = true) : PI X (.Tuple es kk tpos) (.Call (.Name "enumerate" p) [A] [] pos) (tI g (.enum a)) := by
  obtain ⟨g1, g2⟩ := okG_gl O h1
  refine PI.weak (pi_enum g1 (free_of O (by decide +kernel)) (pa1 ha hs) (by rw [star_of hs]; rfl)) fun σ H P ⟨E, F, ι, s, S0, xs, s', h1, k⟩ => ?_
  simp only [evi] at h1
  replace h1 := bd_some h1
  obtain ⟨r1, s1, e1, h1⟩ := h1
  replace h1 := bd_some h1
  obtain ⟨w, s2, e2, h1⟩ := h1
  obtain ⟨e3, e9⟩ := on_some e2
  subst e9
  obtain ⟨h2, e9⟩ := on_some h1
  subst e9
  split at h2
  · cases h2
    refine tE.go S0 e1 fun v F1 ι1 H1 S1 st1 rr1 f1 => ?_
    obtain ⟨F2, S2, st2, q2⟩ := S1.froze rr1 f1 e3
    cases q2 with
    | d q => cases q with | lst q r => exact ⟨_, _, rfl, SqL.of (S2.sub _ _ q), by rw [O.eK]; exact k _ F2 ι1 H1 S2 (st1.trans st2) (it_enum q r)⟩
  · cases h2
theorem snd_zip (O : XOk g X sc) {es : List Expr} {kk : Nat} {tpos : Pos} {a b : Ex} {A B : Expr} {p pos : Pos} (h1 : okG sc "zip" = true) (ha : PE X A (tE g a)) (hb : PE X B (tE g b)) (hs : notStar A = true) (hs2 : notStar B = true) :
    PI X (.Tuple es kk tpos) (.Call (.Name "zip" p) [A, B] [] pos) (tI g (.zip a b)) := by
  obtain ⟨g1, g2⟩ := okG_gl O h1
  refine PI.weak (RZ.pi_zipA g1 (free_of O (by decide +kernel)) (pa2 ha hb hs hs2) (star_of hs) (plain1 hs2)) fun σ H P ⟨E, F, ι, s, S0, xs, s', h1, k⟩ => ?_
  simp only [evi] at h1
  replace h1 := bd_some h1
  obtain ⟨r1, s1, e1, h1⟩ := h1
  replace h1 := bd_some h1
  obtain ⟨w, s2, e2, h1⟩ := h1
  obtain ⟨e3, e9⟩ := on_some e2
  subst e9
  replace h1 := bd_some h1
  obtain ⟨r2, s3, e4, h1⟩ := h1
  replace h1 := bd_some h1
  obtain ⟨u, s4, e5, h1⟩ := h1
  obtain ⟨e6, e9⟩ := on_some e5
  subst e9
  obtain ⟨h2, e9⟩ := on_some h1
  subst e9
  refine tE.go S0 e1 fun v F1 ι1 H1 S1 st1 rr1 f1 => ?_
  obtain ⟨F2, S2, st2, q2⟩ := S1.froze rr1 f1 e3
  refine tE.go S2 e4 fun v' F3 ι3 H3 S3 st3 rr3 f3 => ?_
  obtain ⟨F4, S4, st4, q4⟩ := S3.froze rr3 f3 e6
  have q2' := q2.mono (st3.trans st4)
  split at h2
  · cases h2
    cases q2' with
    | d q => cases q with
      | lst q r => cases q4 with
        | d q' => cases q' with
          | lst q' r' => exact ⟨_, _, _, _, rfl, .inl ⟨SqL.of (S4.sub _ _ q), SqL.of (S4.sub _ _ q'), by rw [O.eK]; exact k _ F4 ι3 H3 S4 (((st1.trans st2).trans st3).trans st4) (it_zipL q r q' r')⟩⟩
  · cases h2
    cases q2' with
    | d q => cases q with
      | tup q r => cases q4 with
        | d q' => cases q' with
          | tup q' r' => exact ⟨_, _, _, _, rfl, .inr ⟨by rw [O.eK]; exact sqT_mono S4.sub q, by rw [O.eK]; exact sqT_mono S4.sub q', by rw [O.eK]; exact k _ F4 ι3 H3 S4 (((st1.trans st2).trans st3).trans st4) (it_zipT q r q' r')⟩⟩
  · cases h2
end
end Xp

/-! E10: comprehensions; every expression. -/
namespace Xp
open PySem PySem.Spec PyProof.Rows L2
section
variable {g : Gd} {X : Cx} {sc : Scope}

theorem wipeR_get : ∀ (vs : List Nat) (l : List (Option R)) (j : Nat), (wipe l vs)[j]? = if j ∈ vs then (l[j]?).map (fun _ => none) else l[j]?
  | [], l, j => by simp [wipe]
  | v :: vs, l, j => by
    unfold wipe
    rw [List.getElem?_set, wipeR_get vs l j]
    have hlen : ∀ vs : List Nat, (wipe l vs).length = l.length := fun vs => by
      induction vs with
      | nil => rfl
      | cons a b ih => unfold wipe; rw [List.length_set, ih]
    by_cases e : v = j
    · subst e
      rw [if_pos rfl, if_pos List.mem_cons_self, hlen]
      by_cases c : v < l.length
      · rw [if_pos c, List.getElem?_eq_getElem c]
        rfl
      · rw [if_neg c, List.getElem?_eq_none (by omega)]
        rfl
    · rw [if_neg e]
      have : (j ∈ v :: vs) = (j ∈ vs) := by simp [Ne.symm e]
      simp only [this]
theorem wipeR_len (l : List (Option R)) (vs : List Nat) : (wipe l vs).length = l.length := by
  induction vs with
  | nil => rfl
  | cons a b ih => unfold wipe; rw [List.length_set, ih]
theorem back_get : ∀ (vs : List Nat) (l old : List (Option R)) (j : Nat), l.length = old.length → (back l old vs)[j]? = if j ∈ vs then old[j]? else l[j]?
  | [], l, old, j, h => by simp [back]
  | v :: vs, l, old, j, h => by
    unfold back
    rw [List.getElem?_set, back_get vs l old j h]
    have hlen : ∀ vs : List Nat, (back l old vs).length = l.length := fun vs => by
      induction vs with
      | nil => rfl
      | cons a b ih => unfold back; rw [List.length_set, ih]
    by_cases e : v = j
    · subst e
      rw [if_pos rfl, if_pos List.mem_cons_self, hlen]
      by_cases c : v < l.length
      · rw [if_pos c, List.getD_eq_getElem?_getD, List.getElem?_eq_getElem (by omega)]; rfl
      · rw [if_neg c, List.getElem?_eq_none (by omega)]
    · rw [if_neg e]
      have : (j ∈ v :: vs) = (j ∈ vs) := by simp [Ne.symm e]
      simp only [this]
theorem back_len (l old : List (Option R)) (vs : List Nat) : (back l old vs).length = l.length := by
  induction vs with
  | nil => rfl
  | cons a b ih => unfold back; rw [List.length_set, ih]
theorem Stt.wiped {K : PySem.W.Frag} {fa : Nat → Option Addr} {E : Ent} {F H : Hp} {ι : List Addr} {s : S} {σ : L2.St} (S0 : Stt K fa E F ι s σ H) (vs : List Nat) : Stt K fa E F ι ⟨wipe s.sl vs, s.st⟩ (L2.wipe σ vs) H := by
  have ne : ∀ j (r : R), (wipe s.sl vs)[j]? = some (some r) → j ∉ vs ∧ s.sl[j]? = some (some r) := fun j r hj => by
    rw [wipeR_get] at hj
    by_cases c : j ∈ vs
    · rw [if_pos c] at hj
      cases h : s.sl[j]? <;> rw [h] at hj <;> cases hj
    · rw [if_neg c] at hj
      exact ⟨c, hj⟩
  have sg : ∀ j, j ∉ vs → (L2.wipe σ vs)[j]? = σ[j]? := fun j c => by rw [wipe_get, if_neg c]
  refine { sub := S0.sub, step := S0.step, nofz := S0.nofz, len := by rw [L2.wipe_length, wipeR_len]; exact S0.len, slot := fun j r hj => ?_, new := fun j ys b o' hb => ?_, dist := fun j l ys zs hjl o1 o2 => ?_, st := S0.st, nfz := S0.nfz, stl := S0.stl, nd := S0.nd, res := fun b hb => ?_ }
  · obtain ⟨n1, n2⟩ := ne j r hj
    obtain ⟨v, q1, q2⟩ := S0.slot j r n2
    exact ⟨v, by rw [sg j n1]; exact q1, q2⟩
  · obtain ⟨n1, n2⟩ := ne j _ o'
    rw [sg j n1] at hb
    exact S0.new j ys b n2 hb
  · obtain ⟨n1, n2⟩ := ne j _ o1
    obtain ⟨n3, n4⟩ := ne l _ o2
    rw [sg j n1, sg l n3]
    exact S0.dist j l ys zs hjl n2 n4
  · obtain ⟨h1, h2, h3, h4⟩ := S0.res b hb
    refine ⟨h1, h2, h3, fun j ys o' => ?_⟩
    obtain ⟨n1, n2⟩ := ne j _ o'
    rw [sg j n1]
    exact h4 j ys n2
/-- behind a comprehension the block's own slots are again what they were -/
theorem Stt.backed {K : PySem.W.Frag} {fa : Nat → Option Addr} {E : Ent} {F F1 H H1 : Hp} {ι ι1 : List Addr} {s s1 : S} {σ : L2.St} {vs : List Nat} (S0 : Stt K fa E F ι ⟨wipe s.sl vs, s.st⟩ (L2.wipe σ vs) H) (S1 : Stt K fa E F1 ι1 s1 σ H1)
    (hs : Stp F1 ι1 H1 F ι H) (hn : noOwn s1.sl vs = true) (hl : s.sl.length = s1.sl.length) : Stt K fa E F ι ⟨back s.sl s1.sl vs, s.st⟩ σ H := by
  have no : ∀ j ∈ vs, ∀ ys, s1.sl[j]? ≠ some (some (.own ys)) := fun j hj ys z => by
    unfold noOwn at hn
    have := List.all_eq_true.mp hn j hj
    rw [z] at this
    cases this
  have ne : ∀ j (r : R), (back s.sl s1.sl vs)[j]? = some (some r) → (j ∈ vs ∧ s1.sl[j]? = some (some r)) ∨ (j ∉ vs ∧ (wipe s.sl vs)[j]? = some (some r)) := fun j r hj => by
    rw [back_get vs _ _ j hl] at hj
    by_cases c : j ∈ vs
    · rw [if_pos c] at hj
      exact .inl ⟨c, hj⟩
    · rw [if_neg c] at hj
      exact .inr ⟨c, by rw [wipeR_get, if_neg c]; exact hj⟩
  have neo : ∀ j ys, OwnAt ⟨back s.sl s1.sl vs, s.st⟩ j ys → j ∉ vs ∧ OwnAt ⟨wipe s.sl vs, s.st⟩ j ys := fun j ys o' => by
    rcases ne j _ o' with ⟨c, z⟩ | z
    · exact absurd z (no j c ys)
    · exact z
  have sg : ∀ j, j ∉ vs → (L2.wipe σ vs)[j]? = σ[j]? := fun j c => by rw [wipe_get, if_neg c]
  refine { sub := S0.sub, step := S0.step, nofz := S0.nofz, len := by rw [back_len, hl]; exact S1.len, slot := fun j r hj => ?_, new := fun j ys b o' hb => ?_, dist := fun j l ys zs hjl o1 o2 => ?_, st := S0.st, nfz := S0.nfz, stl := S0.stl, nd := S0.nd, res := fun b hb => ?_ }
  · rcases ne j r hj with ⟨c, z⟩ | ⟨c, z⟩
    · obtain ⟨v, q1, q2, q3⟩ := S1.slot j r z
      refine ⟨v, q1, ?_, q3⟩
      cases q2 with
      | w q => exact .w (q.mono hs)
      | own o => exact absurd z (no j c _)
      | bor o => exact absurd rfl (q3 _)
    · obtain ⟨v, q1, q2⟩ := S0.slot j r z
      exact ⟨v, by rw [← sg j c]; exact q1, q2⟩
  · obtain ⟨n1, n2⟩ := neo j _ o'
    rw [← sg j n1] at hb
    exact S0.new j ys b n2 hb
  · obtain ⟨n1, n2⟩ := neo j _ o1
    obtain ⟨n3, n4⟩ := neo l _ o2
    rw [← sg j n1, ← sg l n3]
    exact S0.dist j l ys zs hjl n2 n4
  · obtain ⟨h1, h2, h3, h4⟩ := S0.res b hb
    refine ⟨h1, h2, h3, fun j ys o' => ?_⟩
    obtain ⟨n1, n2⟩ := neo j _ o'
    rw [← sg j n1]
    exact h4 j ys n2
/-- one address more is set aside -/
def Ent.set (E : Ent) (D : Addr) : Ent := ⟨E.F, E.ι, E.H, fun b => E.res b ∨ b = D⟩
theorem Stt.aside {K : PySem.W.Frag} {fa : Nat → Option Addr} {E : Ent} {F H : Hp} {ι : List Addr} {s : S} {σ : L2.St} (S0 : Stt K fa E F ι s σ H) {D : Addr} {o : HO} (h : H D = none) : Stt K fa (E.set D) F ι s σ (upd H D o) := by
  obtain ⟨a1, a2, a3, a4, a5⟩ := S0.fresh h
  have S1 := S0.lay (o := o) h
  refine { sub := S1.sub, step := S1.step, nofz := S1.nofz, len := S1.len, slot := S1.slot, new := S1.new, dist := S1.dist, st := S1.st, nfz := S1.nfz, stl := S1.stl, nd := S1.nd, res := fun b hb => ?_ }
  rcases hb with hb | hb
  · exact S1.res b hb
  · subst hb
    exact ⟨a2, by rw [upd_same]; exact (fun z => by cases z), a3, a4⟩
theorem Stt.unaside {K : PySem.W.Frag} {fa : Nat → Option Addr} {E : Ent} {F H : Hp} {ι : List Addr} {s : S} {σ : L2.St} {D : Addr} (S1 : Stt K fa (E.set D) F ι s σ H) : Stt K fa E F ι s σ H :=
  { sub := S1.sub, step := S1.step, nofz := S1.nofz, len := S1.len, slot := S1.slot, new := S1.new, dist := S1.dist, st := S1.st, nfz := S1.nfz, stl := S1.stl, nd := S1.nd, res := fun b hb => S1.res b (.inl hb) }
/-- what is set aside is changed -/
theorem Stt.asideUpd {K : PySem.W.Frag} {fa : Nat → Option Addr} {E : Ent} {F H : Hp} {ι : List Addr} {s : S} {σ : L2.St} {D : Addr} {o : HO} (S1 : Stt K fa (E.set D) F ι s σ H) (h : E.H D = none) : Stt K fa (E.set D) F ι s σ (upd H D o) := by
  obtain ⟨h1, h2, h3, h4⟩ := S1.res D (.inr rfl)
  exact S1.side h h1 h3 h4
theorem Stp.upd {F H F' H' : Hp} {ι ι' : List Addr} {D : Addr} {o : HO} (x : Stp F ι H F' ι' H') (h : H D = none) : Stp F ι H F' ι' (upd H' D o) :=
  ⟨x.fz, x.pre, fun b u q n => by rw [upd_ne (ne_of_none q h)]; exact x.ext b u q n, fun b q => by
    by_cases e : b = D
    · rw [e]; exact h
    · rw [upd_ne e] at q
      exact x.dom b q, fun _ _ _ _ => trivial⟩
theorem wipe_wipe (σ : L2.St) (own : List Nat) : L2.wipe (L2.wipe σ own) own = L2.wipe σ own := by
  apply List.ext_getElem?
  intro j
  rw [wipe_get, wipe_get]
  by_cases cj : j ∈ own
  · rw [if_pos cj, if_pos cj, Option.map_map]
    rfl
  · rw [if_neg cj, if_neg cj]
theorem Mk.mono {K : PySem.W.Frag} {F F' H H' : Hp} {r : R} {v : V} (e : Same F F') (m : Mk K F H r v H') : Mk K F' H r v H' := by
  cases m with
  | old q => exact .old (dp_mono e _ _ q)
  | tup h q => exact .tup h (dpa_mono e _ _ q)
  | lst h q => exact .lst h (dpa_mono e _ _ q)
theorem lc_r (O : XOk g X sc) {own : List Nat} {tg : Tg} {it : It} {c e : Ex} (ht : ∀ i ∈ tgv tg, i ∈ own) : ∀ σ H Q, tE g (.lc own tg it c e) σ H Q → tLc (tI g it) (gT g tg) (tT g c) (tE g e) own σ H Q := by
  intro σ H Q ⟨E, F, ι, s, S0, r, s', h1, k⟩
  simp only [ev] at h1
  replace h1 := bd_some h1
  obtain ⟨xs, s0, e1, h1⟩ := h1
  replace h1 := bd_some h1
  obtain ⟨ys, s1, e2, h1⟩ := h1
  obtain ⟨e3, e9⟩ := on_some e2
  subst e9
  obtain ⟨hno, e4⟩ : noOwn s1.sl own = true ∧ fits xs = some ys := by
    by_cases q : noOwn s1.sl own = true
    · rw [if_pos q] at e3; exact ⟨q, e3⟩
    · rw [if_neg q] at e3; cases e3
  unfold fits at e4
  obtain ⟨hlen, rfl⟩ := ite_some e4
  replace h1 := bd_some h1
  obtain ⟨rs, s7, e7, h1⟩ := h1
  cases h1
  generalize hf : (fun (x : PyData) (s2 : S) => bd (on (bindT tg x (wipe s2.sl own)) s2) fun l s3 => bd (ev g.cal g.G c ⟨l, s3.st⟩) fun k s4 => bd (on (asB s4.st k) s4) fun k s5 =>
        if k = true then bd (ev g.cal g.G e s5) fun y s6 => on (match y.fz with | some (.d d) => some (some d) | _ => none) s6 else some (none, s5)) = f at e7
  refine ⟨E, F, ι, s, S0, xs, s1, e1, fun J F1 ι1 H1 S1 st1 iok D hD => ?_⟩
  obtain ⟨a1, a2, a3, a4, a5⟩ := S1.fresh hD
  refine ⟨fun i m H => m = xs.length - i ∧ i ≤ xs.length ∧ ∃ F ι s rest acc vs, Stt g.K g.fa (E.set D) F ι ⟨wipe s.sl own, s.st⟩ (L2.wipe σ own) H ∧ Stp F1 ι1 H1 F ι H ∧ s.sl.length = s1.sl.length ∧ lcL f (xs.drop i) s = some (rest, s7) ∧ rs = acc ++ rest ∧
      H D = some (.lst vs) ∧ DqAll g.K F vs acc ∧ acc.length ≤ i, ⟨xs.length, by simp, Nat.zero_le _, F1, ι1, s1, rs, [], [], (S1.wiped own).aside hD, Stp.lay hD, rfl, by rw [List.drop_zero]; exact e7, rfl, upd_same, .nil, Nat.zero_le _⟩, ?_⟩
  rintro i m H2 ⟨rfl, hi, F2, ι2, s2, rest, acc, vs, S2, st2, hl2, e8, erest, hHD, hacc, hal⟩
  by_cases hlt : i < xs.length
  · -- a turn
    have hx : xs[i]? = some xs[i] := List.getElem?_eq_getElem hlt
    rw [List.drop_eq_getElem_cons hlt] at e8
    simp only [lcL] at e8
    replace e8 := bd_some e8
    obtain ⟨o, s3, e9, e8⟩ := e8
    replace e8 := bd_some e8
    obtain ⟨rest2, s4, e10, e8⟩ := e8
    cases e8
    obtain ⟨go, yl⟩ := (iok H2 (st2.fz.trans S2.sub)).1 i _ hx
    refine .inr ⟨go, fun H' => ∃ F ι s rest acc vs, Stt g.K g.fa (E.set D) F ι ⟨wipe s.sl own, s.st⟩ (L2.wipe σ own) H' ∧ Stp F1 ι1 H1 F ι H' ∧ s.sl.length = s1.sl.length ∧ lcL f (xs.drop (i + 1)) s = some (rest, s7) ∧ rs = acc ++ rest ∧
      H' D = some (.lst vs) ∧ DqAll g.K F vs acc ∧ acc.length ≤ i + 1, fun H' q => ⟨xs.length - (i + 1), by omega, rfl, hlt, q⟩, fun x H' y => ?_⟩
    obtain ⟨F3, S3, st3, rr3, _⟩ := S2.made (Mk.mono st2.fz (yl x H' y))
    rw [← hf] at e9
    obtain ⟨l, s5, e11, g2⟩ := bd_some e9
    obtain ⟨e12, e99⟩ := on_some e11
    cases e99
    obtain ⟨kr, s6, e13, g3⟩ := bd_some g2
    obtain ⟨kb, s8, e14, g4⟩ := bd_some g3
    obtain ⟨e15, e99⟩ := on_some e14
    cases e99
    cases rr3 with
    | w q =>
    cases q with
    | d q =>
    have hDn : ∀ {F' H' : Hp} {ι' : List Addr} {s : S} {σ : L2.St}, Stt g.K g.fa (E.set D) F' ι' s σ H' → D ∉ ι' := fun S' => (S'.res D (.inr rfl)).2.2.1
    have keepD : ∀ {Fa Ha Fb Hb : Hp} {ιa ιb : List Addr} {sa : S} {σa : L2.St} {o : HO}, Stt g.K g.fa (E.set D) Fa ιa sa σa Ha → Stp Fa ιa Ha Fb ιb Hb → Ha D = some o → Hb D = some o := fun Sa hs hd => hs.ext _ _ hd (hDn Sa)
    have hHD3 := keepD S2 st3 hHD
    have hlb := bindT_len tg _ e12
    rw [wipeR_len] at hlb
    refine ⟨E.set D, F3, ι2, ⟨wipe s2.sl own, s2.st⟩, _, S3, q, l, e12, fun σ3 S4 w4 => ⟨(w4 own ht).trans (wipe_wipe σ own), ?_⟩⟩
    refine ⟨E.set D, F3, ι2, ⟨l, s2.st⟩, S4, kr, s6, kb, e13, e15, fun F5 ι5 H5 S5 st5 => ?_⟩
    have hHD5 := keepD S4 st5 hHD3
    have w5 : L2.wipe σ3 own = L2.wipe σ own := (w4 own ht).trans (wipe_wipe σ own)
    have len6 : s6.sl.length = s1.sl.length := by
      have := S5.len
      have := S4.len
      simp only at *
      omega
    cases kb with
    | false =>
      rw [if_neg Bool.false_ne_true] at g4
      refine iteF ?_
      cases g4
      refine ⟨F5, ι5, _, rest2, acc, vs, ?_, ((st2.trans st3).trans st5), len6, e10, by rw [erest]; rfl, hHD5, dpa_mono (st3.fz.trans st5.fz) _ _ hacc, by omega⟩
      have := S5.wiped own
      rw [w5] at this
      exact this
    | true =>
      rw [if_pos rfl] at g4
      refine iteT ?_
      obtain ⟨yr, s9, e16, g5⟩ := bd_some g4
      obtain ⟨e17, e99⟩ := on_some g5
      cases e99
      refine tE.go S5 e16 fun yv F6 ι6 H6 S6 st6 rr6 f6 => ?_
      split at e17
      · rename_i d e18
        cases e17
        obtain ⟨F7, S7, st7, q7⟩ := S6.froze rr6 f6 e18
        have hHD7 := keepD S6 st7 (keepD S5 st6 hHD5)
        have hacc7 := dpa_mono (((st3.fz.trans st5.fz).trans st6.fz).trans st7.fz) _ _ hacc
        refine ⟨vs, hHD7, by rw [dpa_len hacc, sizeL]; omega, F7, ι6, _, rest2, acc ++ [d], vs ++ [yv], ?_, (((st2.trans st3).trans st5).trans st6).trans st7 |>.upd hD, ?_, e10, by rw [erest, List.append_assoc]; rfl, upd_same, ?_, by rw [List.length_append, List.length_singleton]; omega⟩
        · have := (S7.wiped own).asideUpd (o := .lst (vs ++ [yv])) a1
          rw [w5] at this
          exact this
        · have h1 := S6.len
          have h2 := S5.len
          simp only at *
          omega
        · cases q7 with
          | d q7 => exact dpa_app hacc7 (.cons q7 .nil)
      · cases e17
  · -- the end
    have ei : i = xs.length := by omega
    subst ei
    rw [List.drop_length] at e8
    simp only [lcL] at e8
    cases e8
    rw [List.append_nil] at erest
    subst erest
    refine .inl ⟨(iok H2 (st2.fz.trans S2.sub)).2, ?_⟩
    have S9 := S2.unaside.backed S1 st2 hno hl2
    obtain ⟨r1, r2, r3, r4⟩ := S2.res D (.inr rfl)
    refine k _ F2 ι2 H2 S9 (st1.trans st2) (.own ⟨⟨vs, hHD, hacc⟩, r1, r3⟩) fun zs b e1' e2' => ?_
    cases e2'
    refine ⟨a1, fun j ws o' hj => ?_, a5⟩
    -- D stands in no slot of its own lists
    have : (back s7.sl s1.sl own)[j]? = some (some (.own ws)) := o'
    rw [back_get own _ _ j hl2] at this
    by_cases cj : j ∈ own
    · rw [if_pos cj] at this
      exact a4 j ws this hj
    · rw [if_neg cj] at this
      exact r4 j ws (by show (wipe s7.sl own)[j]? = _; rw [wipeR_get, if_neg cj]; exact this) (by rw [wipe_get, if_neg cj]; exact hj)
end
end Xp

/-! E11: every expression of the small language. -/
namespace Xp
open PySem PySem.Spec PyProof.Rows L2
section
variable {g : Gd}
theorem relab {env : Env} {x : Str} {k : NameKind} (hk : k ≠ .free) : ∀ {names : List (Str × NameKind)}, names.lookup x = some k →
    (names.map fun (n, k) => if (k == NameKind.free && env.scope.kind == .function && env.kindOf n == some .cell) then (n, NameKind.cell) else (n, k)).lookup x = some k
  | [], h => by simp at h
  | (n, j) :: r, h => by
    have ih := @relab env x k hk r
    rw [List.lookup_cons] at h
    show List.lookup x ((if (j == NameKind.free && env.scope.kind == .function && env.kindOf n == some .cell) = true then (n, NameKind.cell) else (n, j)) :: _) = _
    cases hx : x == n with
    | true =>
      rw [hx] at h
      have hj : j = k := Option.some.inj h
      have hf : (j == NameKind.free) = false := by rw [hj]; cases k <;> first | rfl | exact absurd rfl hk
      rw [hf, Bool.false_and, Bool.false_and, if_neg Bool.false_ne_true, List.lookup_cons, hx]
      exact h
    | false =>
      rw [hx] at h
      have hs : ∀ y : Str × NameKind, y.1 = n → ∀ l : List (Str × NameKind), List.lookup x (y :: l) = List.lookup x l := fun y hy l => by
        obtain ⟨y1, y2⟩ := y
        simp only at hy
        subst hy
        rw [List.lookup_cons, hx]
      rw [hs _ (by split <;> rfl)]
      exact ih h
theorem XOk.blk {X : Cx} {sc : Scope} (O : XOk g X sc) (s : Shared) (H : Hp) (scope : Scope) (C : Addr) (cl : List (Str × Addr)) (fp : List Addr) : XOk g (X.blk s H scope (compEnvC scope cl C X.env) fp) (relS scope sc) where
  eK := O.eK
  calm := O.calm
  eN := O.eN
  nd := O.nd
  sc := by rw [← O.sc]; rfl
  room := O.room
  grd := O.grd
  fns := O.fns
  fcl := O.fcl
  gls := O.gls
  blt := O.blt
  xe := rfl
  gcd := O.gcd
theorem sto_blk {X : Cx} (s : Shared) (H : Hp) (scope : Scope) (C : Addr) (cl : List (Str × Addr)) (fp : List Addr) : Sto (X.blk s H scope (compEnvC scope cl C X.env) fp) scope := fun x =>
  ⟨fun h => relab (by decide) h, fun h => ⟨relab (by decide) h, by show (scope.names.lookup x == some .cell) = true; rw [h]; rfl⟩⟩
theorem fold_call {f : Expr} {es : List Expr} {ks : List Keyword} {pos : Pos} {env : Env} : ∀ x, foldedSetIterable (.Call f es ks pos) env x = pure x := fun _ => rfl
theorem fold_of {e : Expr} {env : Env} (h : (match e with | .Set .. => false | _ => true) = true) : ∀ x, foldedSetIterable e env x = pure x := fun x => by
  cases e <;> first | rfl | cases h
theorem chkI_fold {N : List Str} {L : Lk} {sc : Scope} {it : It} {t e : Expr} {env : Env} (h : chkI N L it sc t e = true) : ∀ x, foldedSetIterable e env x = pure x := by
  cases it with
  | seq a =>
    unfold chkI at h
    simp only [Bool.and_eq_true] at h
    exact fold_of h.2
  | rng1 a => unfold chkI at h; split at h; exact fold_call; cases h
  | rng2 a b => unfold chkI at h; split at h; exact fold_call; cases h
  | rng3 a b c => unfold chkI at h; cases h
  | enum a => unfold chkI at h; split at h; exact fold_call; cases h
  | zip a b => unfold chkI at h; split at h; exact fold_call; cases h
theorem pts_yes {X : Cx} : PTs X [] (tT g (.bl true)) := ⟨fun pins s σ H Q I ⟨E, F, ι, s0, S0, r, s', b, h1, hb, k⟩ => pts_nil.run pins s σ H Q I (by
  simp only [ev] at h1
  cases h1
  cases hb
  exact k F ι H S0 Stp.rfl)⟩
def Both (g : Gd) (X : Cx) (e : Expr) (x : Ex) : Prop := PE X e (tE g x) ∧ PT X e (tT g x)
theorem both_of {X : Cx} {e : Expr} {x : Ex} (h : PE X e (tE g x)) (he : ∀ whole, isTrue e X.env whole = (do let v ← whole; standAt e.pos; holding [v] (truthy v))) : Both g X e x := ⟨h, pt_of h he⟩
theorem snd_cav {X : Cx} {sc : Scope} (O : XOk g X sc) {i : Nat} {es : Exs} {x : Str} {p pos : Pos} {y : Expr} {l : List Expr} (h1 : okV g.N sc i x = true) (hc : chks g.N g.L es sc (y :: l) = true) (ha : PA X (y :: l) (tAs g es)) : PE X (.Call (.Name x p) (y :: l) [] pos) (tE g (.cav i es)) := by
  refine ⟨fun pins s σ H Q I ⟨E, F, ι, s0, S0, r, s', h2, k⟩ => ?_⟩
  simp only [ev] at h2
  split at h2
  · rename_i f c
    obtain ⟨v, q1, q2, q3⟩ := S0.slot _ _ c
    cases q2 with
    | w q =>
    cases q with
    | @fn _ a q =>
    obtain ⟨kp, hcl⟩ := O.fcl f a q
    cases es with
    | nil => simp [chks] at hc
    | cons b bs =>
      have hc2 := hc
      simp only [chks, Bool.and_eq_true] at hc2
      refine wpAny_Call_Name_kw (thn ((pe_varB O h1).run pins s σ H (fun w H' => w = .ref a ∧ H' = H) I ⟨.ref a, q1, rfl, rfl⟩) fun u s1 ⟨w, H1, I1, r1, ew, eH⟩ => ?_)
      subst ew
      subst eH
      cases r1
      have rd := (cal_r (g := g) (f := f) (es := .cons b bs) (x := .cal f (.cons b bs)) (fun s => by simp only [ev]; try rfl)) σ H1 Q ⟨E, F, ι, s0, S0, r, s', by simp only [ev]; exact h2, k⟩
      exact PySem.W.callWith_K (h₀ := X.base) I1.ok.mod.kin kp (thn (ha.run pos pins s1 σ H1 _ I1 rd) fun us s2 ⟨vs, H2, I2, r, q⟩ => ⟨I2.kIn, hcl X rfl rfl rfl rfl rfl rfl pins s2 σ H2 vs us Q I2 r q⟩) (star_of hc2.2) (plain_args bs l hc2.1.2)
  · cases h2
theorem u1_plain {X : Cx} {sc : Scope} {e : Expr} {f : U1} {a : Ex} (O : XOk g X sc) (ih : ∀ e, chk g.N g.L a sc e = true → Both g X e a)
    (h : (match e with | .Call (.Name x _) [y] [] _ => decide (x = u1name f) && !decide (x = "") && okG sc x && chk g.N g.L a sc y && notStar y | _ => false) = true) : Both g X e (.u1 f a) := by
  split at h
  · simp only [Bool.and_eq_true, decide_eq_true_eq, Bool.not_eq_true', decide_eq_false_iff_not] at h
    obtain ⟨⟨⟨⟨h1, h2⟩, h3⟩, h4⟩, h5⟩ := h
    exact both_of (snd_u1 O h1 h2 h3 (ih _ h4).1 h5) fun _ => rfl
  · cases h
theorem chkp_ne {N : List Str} {L : Lk} {x : Ex} {sc : Scope} (h : x ≠ .nopart) {o : Option Expr} : chkp N L x sc o = (match o with | some y => chk N L x sc y | none => false) := by
  cases x <;> first | exact absurd rfl h | (unfold chkp; rfl)
mutual
theorem snd_e : ∀ (x : Ex) (X : Cx) (sc : Scope) (e : Expr), XOk g X sc → chk g.N g.L x sc e = true → Both g X e x
  | .int i, X, sc, e, O, h => by
    unfold chk at h
    split at h
    · cases of_decide_eq_true h
      exact both_of (pe_lit pe_int (fun F => .int i) fun s => by simp only [ev]) fun _ => rfl
    · cases h
  | .bl b, X, sc, e, O, h => by
    unfold chk at h
    split at h
    · cases eq_of_beq h
      exact both_of (pe_lit pe_bl (fun F => .bl b) fun s => by simp only [ev]) fun _ => rfl
    · cases h
  | .non, X, sc, e, O, h => by
    unfold chk at h
    split at h
    · exact both_of (pe_lit pe_non (fun F => .non) fun s => by simp only [ev]) fun _ => rfl
    · cases h
  | .str x, X, sc, e, O, h => by
    unfold chk at h
    split at h
    · cases of_decide_eq_true h
      exact both_of (pe_lit pe_str (fun F => .str x) fun s => by simp only [ev]) fun _ => rfl
    · cases h
  | .var i, X, sc, e, O, h => by
    unfold chk at h
    split at h
    · exact both_of (snd_var O h) fun _ => rfl
    · cases h
  | .vb i, X, sc, e, O, h => by
    unfold chk at h
    split at h
    · exact both_of (snd_vb O h) fun _ => rfl
    · cases h
  | .vm i, X, sc, e, O, h => by
    unfold chk at h
    split at h
    · exact both_of (snd_vm O h) fun _ => rfl
    · cases h
  | .glb i, X, sc, e, O, h => by
    unfold chk at h
    split at h
    · simp only [Bool.and_eq_true, decide_eq_true_eq] at h
      exact both_of (snd_glb O h.1 h.2) fun _ => rfl
    · cases h
  | .fnv i, X, sc, e, O, h => by
    unfold chk at h
    split at h
    · simp only [Bool.and_eq_true, decide_eq_true_eq] at h
      exact both_of (snd_fnv O h.1 h.2) fun _ => rfl
    · cases h
  | .scr a, X, sc, e, O, h => by
    unfold chk at h
    split at h
    · simp only [Bool.and_eq_true, decide_eq_true_eq] at h
      obtain ⟨⟨⟨rfl, h2⟩, h3⟩, h4⟩ := h
      exact both_of (snd_scr O h2 (snd_e a X sc _ O h3).1 h4) fun _ => rfl
    · cases h
  | .tup es, X, sc, e, O, h => by
    unfold chk at h
    split at h
    · simp only [Bool.and_eq_true, decide_eq_true_eq] at h
      exact both_of (snd_tup (snd_a es X sc _ O h.1) h.1 h.2) fun _ => rfl
    · cases h
  | .lst es, X, sc, e, O, h => by
    unfold chk at h
    split at h
    · simp only [Bool.and_eq_true, decide_eq_true_eq] at h
      exact both_of (snd_lst (snd_a es X sc _ O h.1) h.1 h.2) fun _ => rfl
    · cases h
  | .bin o a b, X, sc, e, O, h => by
    unfold chk at h
    split at h
    · simp only [Bool.and_eq_true] at h
      cases boE_eq h.1.1
      exact both_of (snd_bin O (snd_e a X sc _ O h.1.2).1 (snd_e b X sc _ O h.2).1) fun _ => rfl
    · cases h
  | .cmp o a b, X, sc, e, O, h => by
    unfold chk at h
    split at h
    · simp only [Bool.and_eq_true, Bool.not_eq_true'] at h
      obtain ⟨⟨⟨h1, h2⟩, h3⟩, h4⟩ := h
      cases coE_eq h1
      have pa := (snd_e a X sc _ O h2).1
      have pb := (snd_e b X sc _ O h3).1
      exact ⟨snd_cmp O pa pb h4, snd_cmpT O pa pb h4⟩
    · cases h
  | .cmp2 o o2 a b c, X, sc, e, O, h => by
    unfold chk at h
    split at h
    · simp only [Bool.and_eq_true, Bool.not_eq_true'] at h
      obtain ⟨⟨⟨⟨⟨h1, h0⟩, h2⟩, h3⟩, h4⟩, h5⟩ := h
      cases coE_eq h1
      cases coE_eq h0
      have pa := (snd_e a X sc _ O h2).1
      have pb := (snd_e b X sc _ O h3).1
      have pc := (snd_e c X sc _ O h4).1
      exact ⟨snd_cmp2 O pa pb pc h5, snd_cmp2T O pa pb pc h5⟩
    · cases h
  | .and a b, X, sc, e, O, h => by
    unfold chk at h
    split at h
    · rename_i x y r pos
      simp only [Bool.and_eq_true] at h
      have pa := snd_e a X sc _ O h.1
      cases r with
      | nil =>
        have pb := snd_e b X sc _ O h.2
        exact ⟨snd_and pa.1 (pe_one pb.1), (snd_andT pa.2 (pw_and1 pb.2)).pt⟩
      | cons z r =>
        have pb := snd_e b X sc _ O h.2
        exact ⟨snd_and pa.1 pb.1, (snd_andT pa.2 ⟨fun wh pins st σ H Q I q => pb.2.run pins st σ H Q I q⟩).pt⟩
    · cases h
  | .or a b, X, sc, e, O, h => by
    unfold chk at h
    split at h
    · rename_i x y r pos
      simp only [Bool.and_eq_true] at h
      have pa := snd_e a X sc _ O h.1
      cases r with
      | nil =>
        have pb := snd_e b X sc _ O h.2
        exact ⟨snd_or pa.1 (pe_one pb.1), (snd_orT pa.2 (pw_or1 pb.2)).pt⟩
      | cons z r =>
        have pb := snd_e b X sc _ O h.2
        exact ⟨snd_or pa.1 pb.1, (snd_orT pa.2 ⟨fun wh pins st σ H Q I q => pb.2.run pins st σ H Q I q⟩).pt⟩
    · cases h
  | .not a, X, sc, e, O, h => by
    unfold chk at h
    split at h
    · have pa := snd_e a X sc _ O h
      exact ⟨snd_not pa.1, snd_notT pa.2⟩
    · cases h
  | .ite c a b, X, sc, e, O, h => by
    unfold chk at h
    split at h
    · simp only [Bool.and_eq_true] at h
      have pc := snd_e c X sc _ O h.1.1
      have pa := snd_e a X sc _ O h.1.2
      have pb := snd_e b X sc _ O h.2
      refine ⟨snd_ite pc.2 pa.1 pb.1, ⟨fun pins st σ H Q I ⟨E, F, ι, s, S0, r, s', kb, h1, hb1, k⟩ => ?_⟩⟩
      simp only [ev] at h1
      obtain ⟨r1, s1, e1, h2⟩ := bd_some h1
      obtain ⟨kk, s2, e2, h3⟩ := bd_some h2
      obtain ⟨e3, e9⟩ := on_some e2
      cases e9
      refine wpAny_bind (thn (pc.2.run pins st σ H (fun kq H1 => if kq = true then tT g a σ H1 Q else tT g b σ H1 Q) I ⟨E, F, ι, s, S0, r1, _, kk, e1, e3, fun F1 ι1 H1 S1 st1 => ?_⟩) fun kz s1 ⟨H1, I1, q1⟩ => ?_)
      · cases kk with
        | true =>
          rw [if_pos rfl] at h3
          exact iteT ⟨E, F1, ι1, _, S1, r, s', kb, h3, hb1, fun F2 ι2 H2 S2 st2 => k F2 ι2 H2 S2 (st1.trans st2)⟩
        | false =>
          rw [if_neg Bool.false_ne_true] at h3
          exact iteF ⟨E, F1, ι1, _, S1, r, s', kb, h3, hb1, fun F2 ι2 H2 S2 st2 => k F2 ι2 H2 S2 (st1.trans st2)⟩
      · cases kz with
        | true => exact pa.2.run pins s1 σ H1 Q I1 q1
        | false => exact pb.2.run pins s1 σ H1 Q I1 q1
    · cases h
  | .cal f es, X, sc, e, O, h => by
    unfold chk at h
    split at h
    · simp only [Bool.and_eq_true, decide_eq_true_eq] at h
      exact both_of (snd_cal O h.1.1 h.1.2 h.2 (snd_a es X sc _ O h.2)) fun _ => rfl
    · simp only [Bool.and_eq_true, decide_eq_true_eq] at h
      have h3 := h.2
      split at h3
      · exact both_of (snd_cal0 O h.1.1 h.1.2) fun _ => rfl
      · cases h3
    · cases h
  | .cav i es, X, sc, e, O, h => by
    unfold chk at h
    split at h
    · simp only [Bool.and_eq_true] at h
      exact both_of (snd_cav O h.1 h.2 (snd_a es X sc _ O h.2)) fun _ => rfl
    · cases h
  | .u1 f a, X, sc, e, O, h => by
    have ih := fun e => snd_e a X sc e O
    cases f with
    | neg =>
      unfold chk at h
      split at h
      · exact both_of (snd_neg O (ih _ h).1) fun _ => rfl
      · cases h
    | isT T =>
      unfold chk at h
      split at h
      · simp only [Bool.and_eq_true, decide_eq_true_eq] at h
        obtain ⟨⟨⟨⟨⟨⟨rfl, h2⟩, h3⟩, h4⟩, rfl⟩, h6⟩, h7⟩ := h
        exact both_of (snd_isT O h2 h6 h7 (ih _ h3).1 h4) fun _ => rfl
      · cases h
    | _ => exact u1_plain O ih (by unfold chk at h; exact h)
  | .u2 f a b, X, sc, e, O, h => by
    have iha := fun e => snd_e a X sc e O
    have ihb := fun e => snd_e b X sc e O
    cases f with
    | join =>
      unfold chk at h
      split at h
      · simp only [Bool.and_eq_true, decide_eq_true_eq] at h
        obtain ⟨⟨⟨⟨⟨rfl, h2⟩, h3⟩, h4⟩, h5⟩, h6⟩ := h
        exact both_of (snd_join O h2 h6 (iha _ h3).1 (ihb _ h4).1 h5) fun _ => rfl
      · cases h
    | count => unfold chk at h; cases h
    | max =>
      unfold chk at h
      split at h
      · simp only [Bool.and_eq_true, decide_eq_true_eq] at h
        obtain ⟨⟨⟨⟨⟨rfl, h2⟩, h3⟩, h4⟩, h5⟩, h6⟩ := h
        exact both_of (snd_max O h2 (iha _ h3).1 (ihb _ h4).1 h5 h6) fun _ => rfl
      · cases h
    | min =>
      unfold chk at h
      split at h
      · simp only [Bool.and_eq_true, decide_eq_true_eq] at h
        obtain ⟨⟨⟨⟨⟨rfl, h2⟩, h3⟩, h4⟩, h5⟩, h6⟩ := h
        exact both_of (snd_min O h2 (iha _ h3).1 (ihb _ h4).1 h5 h6) fun _ => rfl
      · cases h
    | gcd =>
      unfold chk at h
      split at h
      · simp only [Bool.and_eq_true, decide_eq_true_eq] at h
        obtain ⟨⟨⟨⟨⟨⟨h0, rfl⟩, h2⟩, h3⟩, h4⟩, h5⟩, h6⟩ := h
        exact both_of (snd_gcd O (O.gcd h0) h2 (iha _ h3).1 (ihb _ h4).1 h5 h6) fun _ => rfl
      · cases h
  | .ix a b, X, sc, e, O, h => by
    unfold chk at h
    split at h
    · simp only [Bool.and_eq_true] at h
      exact both_of (snd_ix O (snd_e a X sc _ O h.1.1).1 (snd_e b X sc _ O h.1.2).1 h.2) fun _ => rfl
    · cases h
  | .sl a lo hi, X, sc, e, O, h => by
    have ihl := fun e => snd_e lo X sc e O
    have ihh := fun e => snd_e hi X sc e O
    have part : ∀ (x : Ex), (∀ e, chk g.N g.L x sc e = true → Both g X e x) → ∀ o, chkp g.N g.L x sc o = true → PO X o (tPa g x) := fun x ih o q => by
      by_cases hx : x = .nopart
      · subst hx
        unfold chkp at q
        simp only [Option.isNone_iff_eq_none] at q
        subst q
        exact snd_nopart
      · rw [chkp_ne hx] at q
        cases o with
        | none => cases q
        | some y => exact snd_part hx (ih y q).1
    unfold chk at h
    split at h
    · simp only [Bool.and_eq_true] at h
      exact both_of (snd_sl O (snd_e a X sc _ O h.1.1).1 (part lo ihl _ h.1.2) (part hi ihh _ h.2)) fun _ => rfl
    · cases h
  | .nopart, X, sc, e, O, h => by unfold chk at h; cases h
  | .lc own tg it c x, X, sc, e, O, h => by
    have ihc := fun (X : Cx) (sc : Scope) e => snd_e c X sc e
    unfold chk at h
    split at h
    · rename_i elt t i ifs scope pos
      simp only [Bool.and_eq_true] at h
      obtain ⟨⟨⟨⟨⟨h1, h2⟩, h3⟩, h4⟩, h5⟩, h6⟩ := h
      have ht : ∀ j ∈ tgv tg, j ∈ own := fun j hj => by
        have := List.all_eq_true.mp h2 j hj
        simpa using this
      have eo : (own.map fun j => (g.N.getD j "", j)).map (·.2) = own := by
        rw [List.map_map]
        exact List.map_id _
      have tests : ∀ (s : Shared) (H : Hp) (C : Addr) (cl : List (Str × Addr)) (fp : List Addr), PTs (X.blk s H scope (compEnvC scope cl C X.env) fp) ifs (tT g c) := fun s H C cl fp => by
        split at h5
        · split at h5
          · exact pts_yes
          · cases h5
        · exact pts_one (ihc _ _ _ (O.blk s H scope C cl fp) h5).2
        · cases h5
      have pl : PE X (.ListComp elt [⟨t, i, ifs, 0⟩] scope pos) (tLc (tI g it) (gT g tg) (tT g c) (tE g x) ((own.map fun j => (g.N.getD j "", j)).map (·.2))) :=
        pe_lc O.calm O.nd (snd_i it X sc t i O h3) (by rw [O.eN, O.sc]; exact blkOk_by h1) (fun s H C cl fp => snd_tg (O.blk s H scope C cl fp) (sto_blk s H scope C cl fp) tg t h4) tests (fun s H C cl fp => (snd_e x _ _ _ (O.blk s H scope C cl fp) h6).1) (chkI_fold h3)
      rw [eo] at pl
      exact both_of (PE.weak pl (lc_r O ht)) fun _ => rfl
    · cases h
  | .lc2 _ _ _ _ _ _ _, X, sc, e, O, h => by unfold chk at h; cases h
theorem snd_a : ∀ (es : Exs) (X : Cx) (sc : Scope) (l : List Expr), XOk g X sc → chks g.N g.L es sc l = true → PA X l (tAs g es)
  | .nil, X, sc, l, O, h => by
    simp only [chks, List.isEmpty_iff] at h
    subst h
    exact snd_nil
  | .cons a as, X, sc, l, O, h => by
    cases l with
    | nil => simp [chks] at h
    | cons y r =>
      simp only [chks, Bool.and_eq_true] at h
      exact snd_cons (snd_e a X sc y O h.1.1).1 (snd_a as X sc r O h.1.2) h.2
theorem snd_i : ∀ (it : It) (X : Cx) (sc : Scope) (t e : Expr), XOk g X sc → chkI g.N g.L it sc t e = true → PI X t e (tI g it)
  | .seq a, X, sc, t, e, O, h => by
    unfold chkI at h
    simp only [Bool.and_eq_true] at h
    exact snd_seq O (snd_e a X sc e O h.1).1
  | .rng1 a, X, sc, t, e, O, h => by
    unfold chkI at h
    split at h
    · simp only [Bool.and_eq_true, decide_eq_true_eq] at h
      obtain ⟨⟨⟨rfl, h2⟩, h3⟩, h4⟩ := h
      exact snd_rng1 O h2 (snd_e a X sc _ O h3).1 h4
    · cases h
  | .rng2 a b, X, sc, t, e, O, h => by
    unfold chkI at h
    split at h
    · simp only [Bool.and_eq_true, decide_eq_true_eq] at h
      obtain ⟨⟨⟨⟨⟨rfl, h2⟩, h3⟩, h4⟩, h5⟩, h6⟩ := h
      exact snd_rng2 O h2 (snd_e a X sc _ O h3).1 (snd_e b X sc _ O h4).1 h5 h6
    · cases h
  | .rng3 _ _ _, X, sc, t, e, O, h => by unfold chkI at h; cases h
  | .enum a, X, sc, t, e, O, h => by
    unfold chkI at h
    split at h
    · simp only [Bool.and_eq_true, decide_eq_true_eq] at h
      obtain ⟨⟨⟨rfl, h2⟩, h3⟩, h4⟩ := h
      exact snd_enum O h2 (snd_e a X sc _ O h3).1 h4
    · cases h
  | .zip a b, X, sc, t, e, O, h => by
    unfold chkI at h
    split at h
    · simp only [Bool.and_eq_true, decide_eq_true_eq] at h
      obtain ⟨⟨⟨⟨⟨rfl, h2⟩, h3⟩, h4⟩, h5⟩, h6⟩ := h
      exact snd_zip O h2 (snd_e a X sc _ O h3).1 (snd_e b X sc _ O h4).1 h5 h6
    · cases h
end
end
end Xp

/-! E12: statements. -/
namespace Xp
open PySem PySem.Spec PyProof.Rows L2
def isStar : Expr → Bool
  | .Starred .. => true
  | _ => false
/-- which names a tuple's stores are swapped at (none: not to be told) -/
def swp (ts vs : List Expr) (sc : Scope) : Option (Option (List Str)) :=
  if (!(ts.length == 2 || ts.length == 3) || vs.length != ts.length) = true then some none
  else if vs.any isStar = true then some none
  else
    let line := (ts.head?.map (·.pos.line)).getD 0
    let names := ts.filterMap fun
      | .Name id pos => if sc.names.lookup id == some .local && pos.line == line then some id else none
      | _ => none
    if (names.length != ts.length || names.eraseDups.length != names.length) = true then some none
    else if vs.all (foldedForSure 8) = true then some none
    else if vs.all (constantsAlone 8) = true then none else some (some names)
theorem swp_ok {env : Env} {sc : Scope} {ts vs : List Expr} {k k2 : Nat} {p p2 : Pos} {r : Option (List Str)} (hs : env.scope = sc) (hk : sc.kind = .function) (h : swp ts vs sc = some r) : swappedStores [.Tuple ts k p] (.Tuple vs k2 p2) env = pure r := by
  subst hs
  have hb : env.blockKind = .function := by unfold Env.blockKind; rw [hk]; rfl
  have hb2 : (env.blockKind != .function) = false := by rw [hb]; rfl
  unfold swp at h
  unfold swappedStores
  simp only [hb2, Bool.or_false]
  by_cases c1 : (!(ts.length == 2 || ts.length == 3) || vs.length != ts.length) = true
  · rw [if_pos c1] at h
    cases h
    rw [if_pos c1]
  · rw [if_neg c1] at h ⊢
    have e1 : vs.any isStar = vs.any (fun | .Starred .. => true | _ => false) := by
      congr 1
    rw [e1] at h
    split at h
    · rename_i c2
      cases h
      exact if_pos c2
    · rename_i c2
      refine Eq.trans (if_neg c2) ?_
      simp only at h
      split at h
      · rename_i c3
        cases h
        exact if_pos c3
      · rename_i c3
        refine Eq.trans (if_neg c3) ?_
        split at h
        · rename_i c4
          cases h
          exact if_pos c4
        · rename_i c4
          refine Eq.trans (if_neg c4) ?_
          split at h
          · cases h
          · rename_i c5
            cases h
            exact Eq.trans (if_neg c5) rfl
def isComp : Expr → Bool
  | .ListComp .. => true
  | .SetComp .. => true
  | .DictComp .. => true
  | _ => false
/-- the comprehension's list is stored within its frame -/
def swC (e : Expr) (t : Str) (tp : Pos) (sc : Scope) : Bool := match e with
  | .ListComp _ _ s pos => sc.names.lookup t == some .local && tp.line == pos.line && !(s.names.any fun (n, k) => n == t && (k == .local || k == .cell))
  | _ => false
section
variable (N : List Str) (L : Lk)
mutual
def chkS : St → Scope → Stmt → Bool
  | .asg (.v i) e, sc, x => (match x with
    | .Assign [t] v _ => (match t with
      | .Name y py => chkV N i sc t && chk N L e sc v && (!isComp v || (match e with | .lc .. => swC v y py sc && decide (sc.names.lookup y = some .local) | _ => false))
      | _ => false)
    | _ => false)
  | .asg tg e, sc, x => (match x with
    | .Assign [t] v _ => (match t with
      | .Tuple ts _ _ => chkT N tg sc t && chk N L e sc v && (match v with | .Tuple vs _ _ => decide (swp ts vs sc = some none) | _ => true)
      | _ => false)
    | _ => false)
  | .asgC i e, sc, x => (match x with
    | .Assign [t] v _ => (match t with
      | .Name y py => chkV N i sc t && chk N L e sc v && !isComp v
      | _ => false)
    | _ => false)
  | .par is es, sc, x => (match x with
    | .Assign [t] v _ => (match t, v with
      | .Tuple [.Name a pa, .Name b pb] _ _, .Tuple [u, w] _ _ => (match is with
        | [i, j] => decide (N[i]? = some a) && decide (N[j]? = some b) && decide (i ≠ j) && decide (sc.names.lookup a = some .local) && decide (sc.names.lookup b = some .local) && chks N L es sc [u, w] && decide (swp [.Name a pa, .Name b pb] [u, w] sc = some (some [a, b]))
        | _ => false)
      | .Tuple [.Name a pa, .Name b pb, .Name c pc] _ _, .Tuple [u, w, z] _ _ => (match is with
        | [i, j, l] => decide (N[i]? = some a) && decide (N[j]? = some b) && decide (N[l]? = some c) && decide (i ≠ j) && decide (i ≠ l) && decide (j ≠ l) && decide (sc.names.lookup a = some .local) && decide (sc.names.lookup b = some .local) && decide (sc.names.lookup c = some .local) &&
            chks N L es sc [u, w, z] && decide (swp [.Name a pa, .Name b pb, .Name c pc] [u, w, z] sc = some (some [a, b, c]))
        | _ => false)
      | _, _ => false)
    | _ => false)
  | .setv i k e, sc, x => (match x with
    | .Assign [.Subscript (.Name y _) kx _] v _ => okV N sc i y && chk N L k sc kx && notSlice kx && chk N L e sc v
    | _ => false)
  | .app i e, sc, x => (match x with
    | .Expr (.Call (.Attribute (.Name y _) n apos) [a] [] cpos) _ => okV N sc i y && decide (n = ("append" : Str)) && chk N L e sc a && notStar a && apos.endLine == cpos.line
    | _ => false)
  | .ins _ _ _, _, _ => false
  | .exp e, sc, x => (match x with
    | .Expr v _ => chk N L e sc v && !isComp v
    | _ => false)
  | .ret e, sc, x => (match x with
    | .Return (some v) _ => chk N L e sc v
    | _ => false)
  | .retN, _, x => (match x with
    | .Return none _ => true
    | _ => false)
  | .ite c a b, sc, x => (match x with
    | .If t y z _ => chk N L c sc t && chkSs a sc y && chkSs b sc z
    | _ => false)
  | .for_ tg it b, sc, x => (match x with
    | .For t i y [] _ => chkT N tg sc t && chkI N L it sc t i && chkSs b sc y
    | _ => false)
  | .whl c b, sc, x => (match x with
    | .While t y [] _ => chk N L c sc t && chkSs b sc y
    | _ => false)
  | .brk, _, x => (match x with | .Break _ => true | _ => false)
  | .cnt, _, x => (match x with | .Continue _ => true | _ => false)
  | .pass, _, x => (match x with | .Pass _ => true | _ => false)
  | .never, _, _ => true
def chkSs : Sts → Scope → List Stmt → Bool
  | .nil, _, l => l.isEmpty
  | .cons a r, sc, l => (match l with
    | x :: xs => chkS a sc x && chkSs r sc xs
    | [] => false)
end
end
/-! ### readings -/
def Fin0 (g : Gd) (E : Ent) (F : Hp) (D : Ends) (fl : Fl) (s' : S) : Prop := ∀ σ' F' ι' H', Stt g.K g.fa E F' ι' s' σ' H' → Same F F' → (match fl with
  | .nx => D.nx σ' H'
  | .bk => D.bk σ' H'
  | .ct => D.ct σ' H'
  | .rt r => ∀ v, RR g.K g.fa F' ι' H' v r → Fre E s' σ' v r → (∀ xs, r ≠ .bor xs) → D.rt v H')
def tSt (g : Gd) (x : St) : TS := fun D σ H => ∃ E F ι s, Stt g.K g.fa E F ι s σ H ∧ ∃ fl s', run g.cal g.G g.wf x s = some (fl, s') ∧ Fin0 g E F D fl s'
def tSs (g : Gd) (x : Sts) : TS := fun D σ H => ∃ E F ι s, Stt g.K g.fa E F ι s σ H ∧ ∃ fl s', runs g.cal g.G g.wf x s = some (fl, s') ∧ Fin0 g E F D fl s'
section
variable {g : Gd} {X : Cx} {sc : Scope}
theorem PS.weak {st : Stmt} {t t2 : TS} (h : PS X st t) (w : ∀ D σ H, t2 D σ H → t D σ H) : PS X st t2 := ⟨fun pins s σ H D I q => h.run pins s σ H D I (w D σ H q)⟩
theorem PSs.weak {st : List Stmt} {t t2 : TS} (h : PSs X st t) (w : ∀ D σ H, t2 D σ H → t D σ H) : PSs X st t2 := ⟨fun pins s σ H D I q => h.run pins s σ H D I (w D σ H q)⟩
theorem Fin0.more {E : Ent} {F F1 : Hp} {D : Ends} {fl : Fl} {s' : S} (h : Fin0 g E F D fl s') (e : Same F F1) : Fin0 g E F1 D fl s' := fun σ' F' ι' H' S' e' => h σ' F' ι' H' S' (e.trans e')
theorem never_of (O : XOk g X sc) : PassesOwn (model X.prog X.w) X.A X.env X.xe := by
  rw [O.xe]
  exact PassesOwn.never

theorem sw_plain {v : Expr} {t : Option Expr} {l : Nat} {env : Env} (h : isComp v = false) : swapsWith v t l env = pure false := by
  cases v <;> first | rfl | cases h
theorem sw_tup {v : Expr} {ts : List Expr} {k : Nat} {p : Pos} {l : Nat} {env : Env} : swapsWith v (some (.Tuple ts k p)) l env = pure false := by
  cases v <;> rfl
theorem swC_ok {elt : Expr} {gs : List Comprehension} {scope : Scope} {pos py : Pos} {y : Str} {l : Nat} {env : Env} (hk : env.scope.kind = .function) (h : swC (.ListComp elt gs scope pos) y py env.scope = true) : swapsWith (.ListComp elt gs scope pos) (some (.Name y py)) l env = pure true := by
  unfold swC at h
  simp only [Bool.and_eq_true, Bool.not_eq_true', beq_iff_eq] at h
  exact sw_true hk h.1.1 (by rw [h.1.2]; exact beq_self_eq_true _) h.2
/-- a slot is given any value -/
theorem Stt.setR {K : PySem.W.Frag} {fa : Nat → Option Addr} {E : Ent} {F H : Hp} {ι : List Addr} {s : S} {σ : L2.St} (S0 : Stt K fa E F ι s σ H) {v : V} {r : R} {i : Nat} (q : RR K fa F ι H v r) (f : Fre E s σ v r) (nb : ∀ xs, r ≠ .bor xs) (il : i < s.sl.length) :
    Stt K fa E F ι ⟨s.sl.set i (some r), s.st⟩ (σ.set i (some v)) H := by
  cases q with
  | w q => exact S0.setW q il
  | bor o => exact absurd rfl (nb _)
  | @own a xs o =>
    obtain ⟨f1, f2, f3⟩ := f xs a rfl rfl
    have iσ : i < σ.length := by rw [S0.len]; exact il
    have ne : ∀ j (r : R), (s.sl.set i (some (.own xs)))[j]? = some (some r) → (j = i ∧ r = .own xs) ∨ (j ≠ i ∧ s.sl[j]? = some (some r)) := fun j r hj => by
      by_cases e : i = j
      · subst e
        rw [List.getElem?_set_self il] at hj
        cases hj
        exact .inl ⟨rfl, rfl⟩
      · rw [List.getElem?_set_ne e] at hj
        exact .inr ⟨fun z => e z.symm, hj⟩
    have gi : (σ.set i (some (V.ref a)))[i]? = some (some (.ref a)) := List.getElem?_set_self iσ
    have gn : ∀ j, j ≠ i → (σ.set i (some (V.ref a)))[j]? = σ[j]? := fun j n => List.getElem?_set_ne (Ne.symm n)
    refine { sub := S0.sub, step := S0.step, nofz := S0.nofz, len := by simp [S0.len], slot := fun j r hj => ?_, new := fun j ys b o' hb => ?_, dist := fun j l ys zs hjl o1 o2 => ?_, st := S0.st, nfz := S0.nfz, stl := S0.stl, nd := S0.nd, res := fun b hb => ?_ }
    · rcases ne j r hj with ⟨rfl, rfl⟩ | ⟨n1, n2⟩
      · exact ⟨_, gi, .own o, nb⟩
      · obtain ⟨u, q1, q2⟩ := S0.slot j r n2
        exact ⟨u, by rw [gn j n1]; exact q1, q2⟩
    · rcases ne j _ o' with ⟨rfl, _⟩ | ⟨n1, n2⟩
      · rw [gi] at hb
        cases hb
        exact f1
      · rw [gn j n1] at hb
        exact S0.new j ys b n2 hb
    · rcases ne j _ o1 with ⟨rfl, _⟩ | ⟨n1, n2⟩
      · rcases ne l _ o2 with ⟨z, _⟩ | ⟨n3, n4⟩
        · exact absurd z.symm hjl
        · rw [gi, gn l n3]
          exact fun z => f2 l zs n4 z.symm
      · rcases ne l _ o2 with ⟨rfl, _⟩ | ⟨n3, n4⟩
        · rw [gi, gn j n1]
          exact f2 j ys n2
        · rw [gn j n1, gn l n3]
          exact S0.dist j l ys zs hjl n2 n4
    · obtain ⟨h1, h2, h3, h4⟩ := S0.res b hb
      refine ⟨h1, h2, h3, fun j ys o' => ?_⟩
      rcases ne j _ o' with ⟨rfl, _⟩ | ⟨n1, n2⟩
      · rw [gi]
        intro z
        cases z
        exact f3 hb
      · rw [gn j n1]
        exact h4 j ys n2
/-- an own list becomes a shared one -/
theorem Stt.share {K : PySem.W.Frag} {fa : Nat → Option Addr} {E : Ent} {F H : Hp} {ι : List Addr} {s : S} {σ : L2.St} (S0 : Stt K fa E F ι s σ H) {a : Addr} {xs : List PyData} (o : Own K F ι H a xs) (f : Fre E s σ (.ref a) (.own xs)) :
    Stt K fa E F (ι ++ [a]) ⟨s.sl, s.st ++ [xs]⟩ σ H ∧ RW K fa F (ι ++ [a]) (.ref a) (.cell s.st.length) := by
  obtain ⟨f1, f2, f3⟩ := f xs a rfl rfl
  obtain ⟨vs, e1, e2⟩ := o.ex
  have na : ∀ i ys, OwnAt s i ys → ∀ b, σ[i]? = some (some (.ref b)) → b ≠ a := fun i ys o' b hb z => by
    subst z
    exact f2 i ys o' hb
  obtain ⟨m, em, nm⟩ := S0.step.pre
  refine ⟨{ sub := S0.sub, step := ⟨S0.step.fz, ⟨m ++ [a], by rw [em, List.append_assoc], fun b hb => ?_⟩, S0.step.ext, S0.step.dom, fun _ _ _ _ => trivial⟩, nofz := S0.nofz, len := S0.len, slot := fun j r hj => ?_, new := S0.new, dist := S0.dist, st := fun n ys hn => ?_, nfz := fun b hb => ?_,
            stl := by simp [S0.stl], nd := ?_, res := fun b hb => ?_ }, .cell ?_⟩
  · rcases List.mem_append.mp hb with z | z
    · exact nm b z
    · rw [List.mem_singleton.mp z]
      exact f1
  · obtain ⟨u, q1, q2, q3⟩ := S0.slot j r hj
    refine ⟨u, q1, ?_, q3⟩
    have up : ∀ {n : Nat} {b : Addr}, ι[n]? = some b → (ι ++ [a])[n]? = some b := fun {n b} z => by
      rw [List.getElem?_append_left (List.getElem?_eq_some_iff.mp z).1]
      exact z
    cases q2 with
    | w q => cases q with
      | d q => exact .w (.d q)
      | cell q => exact .w (.cell (up q))
      | fn q => exact .w (.fn q)
      | known q => exact .w (.known q)
    | @own b ys o' => exact .own ⟨o'.ex, o'.nf, fun z => by
        rcases List.mem_append.mp z with z | z
        · exact o'.ni z
        · exact na j ys hj b q1 (List.mem_singleton.mp z)⟩
    | bor o' => exact absurd rfl (q3 _)
  · by_cases c : n < s.st.length
    · rw [List.getElem?_append_left c] at hn
      obtain ⟨b, us, q1, q2⟩ := S0.st n ys hn
      refine ⟨b, us, ?_, q2⟩
      rw [List.getElem?_append_left (by rw [← S0.stl]; exact c)]
      exact q1
    · have hn' := (List.getElem?_eq_some_iff.mp hn).1
      rw [List.length_append, List.length_singleton] at hn'
      have en : n = s.st.length := by omega
      subst en
      rw [List.getElem?_append_right (Nat.le_refl _), Nat.sub_self] at hn
      cases hn
      refine ⟨a, vs, ?_, e1, e2⟩
      rw [S0.stl, List.getElem?_append_right (Nat.le_refl _), Nat.sub_self]
      rfl
  · rcases List.mem_append.mp hb with z | z
    · exact S0.nfz b z
    · rw [List.mem_singleton.mp z]
      exact ⟨o.nf, by rw [e1]; exact (fun z => by cases z)⟩
  · rw [List.nodup_append]
    refine ⟨S0.nd, by simp, fun b hb c hc => ?_⟩
    rw [List.mem_singleton.mp hc]
    rintro rfl
    exact o.ni hb
  · obtain ⟨h1, h2, h3, h4⟩ := S0.res b hb
    refine ⟨h1, h2, fun z => ?_, h4⟩
    rcases List.mem_append.mp z with z | z
    · exact h3 z
    · rw [List.mem_singleton.mp z] at hb
      exact f3 hb
  · rw [S0.stl, List.getElem?_append_right (Nat.le_refl _), Nat.sub_self]
    rfl
/-- an own list in a slot is changed -/
theorem Stt.chg {K : PySem.W.Frag} {fa : Nat → Option Addr} {E : Ent} {F H : Hp} {ι : List Addr} {s : S} {σ : L2.St} (S0 : Stt K fa E F ι s σ H) {i : Nat} {xs ys : List PyData} {a : Addr} {vs : List V} (h : OwnAt s i xs) (ha : σ[i]? = some (some (.ref a))) (q : DqAll K F vs ys) :
    Stt K fa E F ι ⟨s.sl.set i (some (.own ys)), s.st⟩ σ (upd H a (.lst vs)) := by
  have il : i < s.sl.length := (List.getElem?_eq_some_iff.mp h).1
  obtain ⟨u, q1, q2, q3⟩ := S0.slot i _ h
  rw [ha] at q1
  cases q1
  cases q2 with
  | own o =>
    have ea := S0.new i xs a h ha
    have ne : ∀ j (r : R), (s.sl.set i (some (.own ys)))[j]? = some (some r) → (j = i ∧ r = .own ys) ∨ (j ≠ i ∧ s.sl[j]? = some (some r)) := fun j r hj => by
      by_cases e : i = j
      · subst e
        rw [List.getElem?_set_self il] at hj
        cases hj
        exact .inl ⟨rfl, rfl⟩
      · rw [List.getElem?_set_ne e] at hj
        exact .inr ⟨fun z => e z.symm, hj⟩
    have nf := o.nf
    have ni := o.ni
    refine { sub := fun b x e => by rw [upd_ne (ne_of_none e nf)]; exact S0.sub b x e, step := ⟨S0.step.fz, S0.step.pre, fun b x e n => by rw [upd_ne (ne_of_none e ea)]; exact S0.step.ext b x e n, fun b e => ?_, fun _ _ _ _ => trivial⟩, nofz := S0.nofz, len := by simp [S0.len],
             slot := fun j r hj => ?_, new := fun j zs b o' hb => ?_, dist := fun j l zs ws hjl o1 o2 => ?_, st := fun n zs hn => ?_, nfz := fun b hb => ?_, stl := S0.stl, nd := S0.nd, res := fun b hb => ?_ }
    · by_cases z : b = a
      · rw [z]; exact ea
      · rw [upd_ne z] at e
        exact S0.step.dom b e
    · rcases ne j r hj with ⟨rfl, rfl⟩ | ⟨n1, n2⟩
      · exact ⟨_, ha, .own ⟨⟨vs, upd_same, q⟩, nf, ni⟩, fun _ z => by cases z⟩
      · obtain ⟨w, p1, p2, p3⟩ := S0.slot j r n2
        refine ⟨w, p1, ?_, p3⟩
        cases p2 with
        | w p => exact .w p
        | @own b zs o' =>
          obtain ⟨us, g1, g2⟩ := o'.ex
          refine .own ⟨⟨us, ?_, g2⟩, o'.nf, o'.ni⟩
          rw [upd_ne]
          · exact g1
          · rintro rfl
            exact S0.dist j i zs xs n1 n2 h (p1.trans ha.symm)
        | bor o' => exact absurd rfl (p3 _)
    · rcases ne j _ o' with ⟨rfl, _⟩ | ⟨n1, n2⟩
      · rw [ha] at hb
        cases hb
        exact ea
      · exact S0.new j zs b n2 hb
    · rcases ne j _ o1 with ⟨rfl, _⟩ | ⟨n1, n2⟩
      · rcases ne l _ o2 with ⟨z, _⟩ | ⟨n3, n4⟩
        · exact absurd z.symm hjl
        · exact S0.dist _ _ xs ws hjl h n4
      · rcases ne l _ o2 with ⟨rfl, _⟩ | ⟨n3, n4⟩
        · exact S0.dist _ _ zs xs hjl n2 h
        · exact S0.dist j l zs ws hjl n2 n4
    · obtain ⟨b, us, g1, g2, g3⟩ := S0.st n zs hn
      refine ⟨b, us, g1, ?_, g3⟩
      rw [upd_ne]
      · exact g2
      · rintro rfl
        exact ni (List.mem_of_getElem? g1)
    · obtain ⟨h1, h2⟩ := S0.nfz b hb
      refine ⟨h1, ?_⟩
      rw [upd_ne]
      · exact h2
      · rintro rfl
        exact ni hb
    · obtain ⟨h1, h2, h3, h4⟩ := S0.res b hb
      have hba : b ≠ a := by
        rintro rfl
        exact h4 i xs h ha
      refine ⟨h1, by rw [upd_ne hba]; exact h2, h3, fun j zs o' => ?_⟩
      rcases ne j _ o' with ⟨rfl, _⟩ | ⟨n1, n2⟩
      · rw [ha]
        intro z
        cases z
        exact hba rfl
      · exact h4 j zs n2
/-- a shared list is changed -/
theorem Stt.chgC {K : PySem.W.Frag} {fa : Nat → Option Addr} {E : Ent} {F H : Hp} {ι : List Addr} {s : S} {σ : L2.St} (S0 : Stt K fa E F ι s σ H) {n : Nat} {ys : List PyData} {a : Addr} {vs : List V} (ha : ι[n]? = some a) (q : DqAll K F vs ys) :
    Stt K fa E F ι ⟨s.sl, s.st.set n ys⟩ σ (upd H a (.lst vs)) := by
  have hm : a ∈ ι := List.mem_of_getElem? ha
  obtain ⟨nf, hn⟩ := S0.nfz a hm
  have il : n < s.st.length := by rw [S0.stl]; exact (List.getElem?_eq_some_iff.mp ha).1
  refine { sub := fun b x e => by rw [upd_ne (ne_of_none e nf)]; exact S0.sub b x e, step := ⟨S0.step.fz, S0.step.pre, fun b x e z => ?_, fun b e => ?_, fun _ _ _ _ => trivial⟩, nofz := S0.nofz, len := S0.len,
           slot := fun j r hj => ?_, new := S0.new, dist := S0.dist, st := fun m zs hm' => ?_, nfz := fun b hb => ?_, stl := by simp [S0.stl], nd := S0.nd, res := fun b hb => ?_ }
  · have hba : b ≠ a := by
      rintro rfl
      rcases S0.step.imem hm with y | y
      · exact z y
      · rw [e] at y; cases y
    rw [upd_ne hba]
    exact S0.step.ext b x e z
  · by_cases z : b = a
    · rw [z, upd_same] at e
      cases e
    · rw [upd_ne z] at e
      exact S0.step.dom b e
  · obtain ⟨w, p1, p2, p3⟩ := S0.slot j r hj
    refine ⟨w, p1, ?_, p3⟩
    cases p2 with
    | w p => exact .w p
    | @own b zs o' =>
      obtain ⟨us, g1, g2⟩ := o'.ex
      refine .own ⟨⟨us, ?_, g2⟩, o'.nf, o'.ni⟩
      rw [upd_ne]
      · exact g1
      · rintro rfl
        exact o'.ni hm
    | bor o' => exact absurd rfl (p3 _)
  · by_cases c : n = m
    · subst c
      rw [List.getElem?_set_self il] at hm'
      cases hm'
      exact ⟨a, vs, ha, upd_same, q⟩
    · rw [List.getElem?_set_ne c] at hm'
      obtain ⟨b, us, g1, g2, g3⟩ := S0.st m zs hm'
      refine ⟨b, us, g1, ?_, g3⟩
      rw [upd_ne]
      · exact g2
      · rintro rfl
        obtain ⟨h1, e1⟩ := List.getElem?_eq_some_iff.mp ha
        obtain ⟨h2, e2⟩ := List.getElem?_eq_some_iff.mp g1
        exact c ((List.getElem_inj S0.nd).mp (e1.trans e2.symm))
  · obtain ⟨h1, h2⟩ := S0.nfz b hb
    refine ⟨h1, ?_⟩
    by_cases z : b = a
    · rw [z, upd_same]
      exact fun z => by cases z
    · rw [upd_ne z]
      exact h2
  · obtain ⟨h1, h2, h3, h4⟩ := S0.res b hb
    have hba : b ≠ a := by
      rintro rfl
      exact h3 hm
    exact ⟨h1, by rw [upd_ne hba]; exact h2, h3, h4⟩
end
end Xp

/-! E13: every statement of the small language. -/
namespace Xp
open PySem PySem.Spec PyProof.Rows L2
section
variable {g : Gd} {X : Cx} {sc : Scope}
structure XS (g : Gd) (X : Cx) (sc : Scope) : Prop where
  ok : XOk g X sc
  sto : Sto X sc
  kind : X.env.scope.kind = .function
theorem Fin0.nxR {E : Ent} {F F1 H1 : Hp} {ι1 : List Addr} {D : Ends} {s' : S} {σ1 : L2.St} (h : Fin0 g E F D .nx s') (S1 : Stt g.K g.fa E F1 ι1 s' σ1 H1) (e : Same F F1) : D.nx σ1 H1 := h σ1 F1 ι1 H1 S1 e
/-- name = e, the walked part -/
theorem asgv_r {i : Nat} {e : Ex} : ∀ D σ H, tSt g (.asg (.v i) e) D σ H → tE g e σ H (fun x H1 => D.nx (σ.set i (some x)) H1) := by
  intro D σ H ⟨E, F, ι, s, S0, fl, s', h, fin⟩
  simp only [run] at h
  obtain ⟨r, s1, e1, h2⟩ := bd_some h
  refine tE.go S0 e1 fun v F1 ι1 H1 S1 st1 rr fr => ?_
  split at h2
  · cases h2
  · rename_i nb
    split at h2
    · rename_i il
      cases h2
      exact fin _ F1 ι1 H1 (S1.setR rr fr (fun xs z => nb xs z) il) st1.fz
    · cases h2
theorem sole_of {t v : Expr} {l : Nat} {env : Env} (h : swapsWith v (some t) l env = pure false) : swapsWithSole [t] v l env = pure false := by
  exact h
theorem one_plain {y : Str} {py : Pos} {v : Expr} {env : Env} : swappedStores [.Name y py] v env = pure none := rfl
theorem sub_plain {a b : Expr} {py : Pos} {v : Expr} {env : Env} : swappedStores [.Subscript a b py] v env = pure none := rfl
theorem sub_sw {a b v : Expr} {py : Pos} {l : Nat} {env : Env} : swapsWithSole [.Subscript a b py] v l env = pure false := by
  cases v <;> rfl
theorem tup_plain {ts : List Expr} {v : Expr} {k : Nat} {p : Pos} {env : Env} (h : (match v with | .Tuple .. => false | _ => true) = true) : swappedStores [.Tuple ts k p] v env = pure none := by
  cases v <;> first | rfl | cases h
theorem asg1 {t : Expr} {env : Env} (h : notStar t = true) : (assignEach [t] env).map (·.2) = [assign t env] := by
  rw [asg_of h]; rfl
theorem snd_asgv (O : XS g X sc) {i : Nat} {e : Ex} {v : Expr} {y : Str} {py pos : Pos} (hv : chkV g.N i sc (.Name y py) = true) (he : PE X v (tE g e)) (hn : isComp v = false) : PS X (.Assign [.Name y py] v pos) (tSt g (.asg (.v i) e)) := by
  have pg : PG X (.Name y py) (gName i) := by
    unfold chkV at hv
    simp only [Bool.and_eq_true, decide_eq_true_eq] at hv
    obtain ⟨h1, h2⟩ := hv
    split at h2
    · rename_i c
      have c' := (O.sto y).1 c
      exact pg_name O.ok.nd (by rw [O.ok.eN]; exact h1) (.inl c') (.inr c')
    · rename_i c
      obtain ⟨c1, c2⟩ := (O.sto y).2 c
      exact pg_name O.ok.nd (by rw [O.ok.eN]; exact h1) (.inr c1) (.inl c2)
    · cases h2
  exact PS.weak (ps_asg he pg (sole_of (sw_plain hn)) one_plain (asg1 rfl)) fun D σ H h => asgv_r D σ H h
def gL (g : Gd) (tg : Tg) : TG := fun v σ H Q => ∃ E F ι s xs, Stt g.K g.fa E F ι s σ H ∧ Dq g.K F v (.list xs) ∧ ∃ l, bindT tg (.tuple xs) s.sl = some l ∧ ∀ σ', Stt g.K g.fa E F ι ⟨l, s.st⟩ σ' H → (∀ ws, (∀ i ∈ tgv tg, i ∈ ws) → L2.wipe σ' ws = L2.wipe σ ws) → Q σ' H
theorem PG.or {e : Expr} {t u : TG} (h : PG X e t) (l : PG X e u) : PG X e (fun v σ H Q => t v σ H Q ∨ u v σ H Q) := ⟨fun pins s σ H v w Q I r q => by
  rcases q with q | q
  · exact h.run pins s σ H v w Q I r q
  · exact l.run pins s σ H v w Q I r q⟩
theorem tg_ofL (O : XOk g X sc) {sc0 : Scope} {tg : Tg} {es : List Expr} {k0 : Nat} {pos : Pos} (h : chkTs g.N tg sc0 es = true) (ih : PGs X es (gTs g tg)) : PG X (.Tuple es k0 pos) (gL g tg) := by
  obtain ⟨h1, h2⟩ := asg_plain (sc := sc0) tg es (env := X.env) h
  refine PG.weak (pg_lst O.calm ih rfl h2) fun v σ H Q ⟨E, F, ι, s, xs, S0, hd, l, hb, k⟩ => ?_
  cases hd with
  | lst q r => exact ⟨_, _, rfl, SqL.of (S0.sub _ _ q), by rw [h1, dpa_len r]; exact bindT_tup tg es h hb, E, F, ι, s, xs, S0, r, l, hb, k⟩
theorem asgt_r {tg : Tg} {e : Ex} (hne : ∀ i, tg ≠ .v i) : ∀ D σ H, tSt g (.asg tg e) D σ H → tAsg (tE g e) (fun v σ H Q => gT g tg v σ H Q ∨ gL g tg v σ H Q) D σ H := by
  intro D σ H ⟨E, F, ι, s, S0, fl, s', h, fin⟩
  have h' : bd (ev g.cal g.G e s) (fun r s1 => bd (on r.fz s1) fun w s1 => (match w with
    | .d (.list xs) => bd (on (bindT tg (.tuple xs) s1.sl) s1) fun l s1 => some (Fl.nx, (⟨l, s1.st⟩ : S))
    | .d x => bd (on (bindT tg x s1.sl) s1) fun l s1 => some (Fl.nx, (⟨l, s1.st⟩ : S))
    | _ => none)) = some (fl, s') := by
    cases tg with
    | v i => exact absurd rfl (hne i)
    | nil => simp only [run] at h; exact h
    | cons a b => simp only [run] at h; exact h
  obtain ⟨r, s1, e1, h2⟩ := bd_some h'
  obtain ⟨w, s2, e2, h3⟩ := bd_some h2
  obtain ⟨e3, e9⟩ := on_some e2
  cases e9
  refine tE.go S0 e1 fun v F1 ι1 H1 S1 st1 rr fr => ?_
  obtain ⟨F2, S2, st2, q⟩ := S1.froze rr fr e3
  split at h3
  · obtain ⟨l, s3, e4, h4⟩ := bd_some h3
    obtain ⟨e5, e9⟩ := on_some e4
    cases e9
    cases h4
    cases q with
    | d q => exact .inr ⟨E, F2, ι1, _, _, S2, q, l, e5, fun σ' S3 _ => fin _ F2 ι1 H1 S3 (st1.fz.trans st2.fz)⟩
  · obtain ⟨l, s3, e4, h4⟩ := bd_some h3
    obtain ⟨e5, e9⟩ := on_some e4
    cases e9
    cases h4
    cases q with
    | d q => exact .inl ⟨E, F2, ι1, _, _, S2, q, l, e5, fun σ' S3 _ => fin _ F2 ι1 H1 S3 (st1.fz.trans st2.fz)⟩
  · cases h3
theorem snd_asgt (O : XS g X sc) {tg : Tg} {e : Ex} {v : Expr} {ts : List Expr} {k : Nat} {py pos : Pos} (hne : ∀ i, tg ≠ .v i) (hv : chkT g.N tg sc (.Tuple ts k py) = true) (he : PE X v (tE g e)) (hw : swappedStores [.Tuple ts k py] v X.env = pure none) :
    PS X (.Assign [.Tuple ts k py] v pos) (tSt g (.asg tg e)) := by
  have hc : chkTs g.N tg sc ts = true := by
    cases tg with
    | v i => exact absurd rfl (hne i)
    | nil => exact hv
    | cons a b => exact hv
  exact PS.weak (ps_asg he (PG.or (snd_tg O.ok O.sto tg _ hv) (tg_ofL O.ok hc (snd_tgs O.ok O.sto tg ts hc))) (sole_of sw_tup) hw (asg1 rfl)) fun D σ H h => asgt_r hne D σ H h
theorem snd_asgC (O : XS g X sc) {i : Nat} {e : Ex} {v : Expr} {y : Str} {py pos : Pos} (hv : chkV g.N i sc (.Name y py) = true) (he : PE X v (tE g e)) (hn : isComp v = false) : PS X (.Assign [.Name y py] v pos) (tSt g (.asgC i e)) := by
  have pg : PG X (.Name y py) (gName i) := by
    unfold chkV at hv
    simp only [Bool.and_eq_true, decide_eq_true_eq] at hv
    obtain ⟨h1, h2⟩ := hv
    split at h2
    · rename_i c
      have c' := (O.sto y).1 c
      exact pg_name O.ok.nd (by rw [O.ok.eN]; exact h1) (.inl c') (.inr c')
    · rename_i c
      obtain ⟨c1, c2⟩ := (O.sto y).2 c
      exact pg_name O.ok.nd (by rw [O.ok.eN]; exact h1) (.inr c1) (.inl c2)
    · cases h2
  refine PS.weak (ps_asg he pg (sole_of (sw_plain hn)) one_plain (asg1 rfl)) fun D σ H ⟨E, F, ι, s, S0, fl, s', h, fin⟩ => ?_
  simp only [run] at h
  obtain ⟨r, s1, e1, h2⟩ := bd_some h
  refine tE.go S0 e1 fun v F1 ι1 H1 S1 st1 rr fr => ?_
  split at h2
  · rename_i xs
    split at h2
    · rename_i il
      cases h2
      cases rr with
      | own o =>
        obtain ⟨S2, q2⟩ := S1.share o fr
        exact fin _ F1 _ H1 (S2.setR (.w q2) fre_w (fun _ z => by cases z) il) st1.fz
    · cases h2
  · cases h2
theorem snd_par2 (O : XS g X sc) {i j : Nat} {x y : Str} {a b : Expr} {es : Exs} {px py pt pos pt2 : Pos} {kt k2 : Nat} (hi : g.N[i]? = some x) (hj : g.N[j]? = some y) (hij : i ≠ j) (hx : sc.names.lookup x = some .local) (hy : sc.names.lookup y = some .local)
    (ha : PA X [a, b] (tAs g es)) (hw : swp [.Name x px, .Name y py] [a, b] sc = some (some [x, y])) : PS X (.Assign [.Tuple [.Name x px, .Name y py] kt pt] (.Tuple [a, b] k2 pt2) pos) (tSt g (.par [i, j] es)) := by
  refine PS.weak (ps_par O.ok.calm O.ok.nd (by rw [O.ok.eN]; exact hi) (by rw [O.ok.eN]; exact hj) hij (by rw [O.ok.sc]; exact hx) (by rw [O.ok.sc]; exact hy) ha (swp_ok O.ok.sc (by rw [← O.ok.sc]; exact O.kind) hw) (sole_of sw_tup)) fun D σ H ⟨E, F, ι, s, S0, fl, s', h, fin⟩ => ?_
  simp only [run] at h
  obtain ⟨ws, s1, e1, h2⟩ := bd_some h
  obtain ⟨l, s2, e2, h3⟩ := bd_some h2
  obtain ⟨e3, e9⟩ := on_some e2
  cases e9
  cases h3
  refine ⟨E, F, ι, s, S0, ws, s1, e1, fun vs F1 ι1 H1 S1 st1 q => ?_⟩
  cases q with
  | nil => simp only [setAll] at e3; cases e3
  | @cons v1 _ w1 _ q1 q =>
  cases q with
  | nil =>
    simp only [setAll] at e3
    split at e3 <;> cases e3
  | @cons v2 _ w2 _ q2 q =>
  cases q with
  | cons q3 q =>
    simp only [setAll] at e3
    split at e3
    · split at e3 <;> cases e3
    · cases e3
  | nil =>
    simp only [setAll] at e3
    split at e3
    · rename_i c1
      split at e3
      · rename_i c2
        cases e3
        exact ⟨v1, v2, rfl, fin _ F1 ι1 H1 ((S1.setW q1 c1).setW q2 c2) st1.fz⟩
      · cases e3
    · cases e3
theorem snd_par3 (O : XS g X sc) {i j l : Nat} {x y z : Str} {a b c : Expr} {es : Exs} {px py pz pt pos pt2 : Pos} {kt k2 : Nat} (hi : g.N[i]? = some x) (hj : g.N[j]? = some y) (hl : g.N[l]? = some z) (hij : i ≠ j) (hil : i ≠ l) (hjl : j ≠ l)
    (hx : sc.names.lookup x = some .local) (hy : sc.names.lookup y = some .local) (hz : sc.names.lookup z = some .local)
    (ha : PA X [a, b, c] (tAs g es)) (hw : swp [.Name x px, .Name y py, .Name z pz] [a, b, c] sc = some (some [x, y, z])) : PS X (.Assign [.Tuple [.Name x px, .Name y py, .Name z pz] kt pt] (.Tuple [a, b, c] k2 pt2) pos) (tSt g (.par [i, j, l] es)) := by
  refine PS.weak (ps_par3 O.ok.calm O.ok.nd (by rw [O.ok.eN]; exact hi) (by rw [O.ok.eN]; exact hj) (by rw [O.ok.eN]; exact hl) hij hil hjl (by rw [O.ok.sc]; exact hx) (by rw [O.ok.sc]; exact hy) (by rw [O.ok.sc]; exact hz) ha (swp_ok O.ok.sc (by rw [← O.ok.sc]; exact O.kind) hw) (sole_of sw_tup)) fun D σ H ⟨E, F, ι, s, S0, fl, s', h, fin⟩ => ?_
  simp only [run] at h
  obtain ⟨ws, s1, e1, h2⟩ := bd_some h
  obtain ⟨l, s2, e2, h3⟩ := bd_some h2
  obtain ⟨e3, e9⟩ := on_some e2
  cases e9
  cases h3
  refine ⟨E, F, ι, s, S0, ws, s1, e1, fun vs F1 ι1 H1 S1 st1 q => ?_⟩
  cases q with
  | nil => simp only [setAll] at e3; cases e3
  | @cons v1 _ w1 _ q1 q =>
  cases q with
  | nil =>
    simp only [setAll] at e3
    split at e3 <;> cases e3
  | @cons v2 _ w2 _ q2 q =>
  cases q with
  | nil =>
    simp only [setAll] at e3
    split at e3
    · split at e3 <;> cases e3
    · cases e3
  | @cons v3 _ w3 _ q3 q =>
  cases q with
  | cons q4 q =>
    simp only [setAll] at e3
    split at e3
    · split at e3
      · split at e3 <;> cases e3
      · cases e3
    · cases e3
  | nil =>
    simp only [setAll] at e3
    split at e3
    · rename_i c1
      split at e3
      · rename_i c2
        split at e3
        · rename_i c3
          cases e3
          exact ⟨v1, v2, v3, rfl, fin _ F1 ι1 H1 (((S1.setW q1 c1).setW q2 c2).setW q3 c3) st1.fz⟩
        · cases e3
      · cases e3
    · cases e3
theorem asI_int {st : List Cell} {r : R} {j : Int} (h : asI st r = some j) : r.dat st = some (.int j) := by
  unfold asI at h
  split at h
  · rename_i e
    cases h
    exact e
  · cases h
theorem ixN_lt {n : Nat} {j : Int} {m : Nat} (h : L2.ixN n j = some m) : m < n := (ixN_seq h).2.1
theorem snd_setv (O : XS g X sc) {i : Nat} {k e : Ex} {y : Str} {kx v : Expr} {p p2 pos : Pos} (hv : okV g.N sc i y = true) (hs : notSlice kx = true) (hk : PE X kx (tE g k)) (he : PE X v (tE g e)) :
    PS X (.Assign [.Subscript (.Name y p) kx p2] v pos) (tSt g (.setv i k e)) := by
  refine PS.weak (ps_asg he (pg_sub (pe_varB O.ok hv) hk set_list (by intro _; cases kx <;> first | rfl | cases hs)) sub_sw sub_plain (asg1 rfl)) fun D σ H ⟨E, F, ι, s, S0, fl, s', h, fin⟩ => ?_
  simp only [run] at h
  obtain ⟨r, s1, e1, h2⟩ := bd_some h
  obtain ⟨w, s2, e2, h3⟩ := bd_some h2
  obtain ⟨e3, e9⟩ := on_some e2
  cases e9
  obtain ⟨_, s2, e7, h3⟩ := bd_some h3
  obtain ⟨e8, e9⟩ := on_some e7
  cases e9
  obtain ⟨kr, s3, e4, h4⟩ := bd_some h3
  obtain ⟨j, s4, e5, h5⟩ := bd_some h4
  obtain ⟨e6, e9⟩ := on_some e5
  cases e9
  refine tE.go S0 e1 fun v F1 ι1 H1 S1 st1 rr fr => ?_
  obtain ⟨F2, S2, st2, q⟩ := S1.froze rr fr e3
  obtain ⟨o, ho⟩ : ∃ o, σ[i]? = some (some o) := by
    split at e8
    · rename_i c
      obtain ⟨u, q1, q2, q3⟩ := S2.slot i _ c
      exact ⟨u, q1⟩
    · cases e8
  refine ⟨o, ho, tE.go S2 e4 fun kv F3 ι3 H3 S3 st3 rr3 fr3 => ?_⟩
  have ek := (S3.rv rr3 (asI_int e6)).int
  subst ek
  split at h5
  · rename_i x
    cases q with
    | d q =>
    have q' := dp_mono st3.fz _ _ q
    split at h5
    · -- its own list
      rename_i xs c
      split at h5
      · rename_i n en
        cases h5
        obtain ⟨u, q1, q2, q3⟩ := S3.slot i _ c
        rw [ho] at q1
        cases q1
        cases q2 with
        | own o =>
        obtain ⟨vs, g1, g2⟩ := o.ex
        exact ⟨_, vs, j, n, rfl, rfl, g1, by rw [dpa_len g2]; exact en, fin _ F3 ι3 _ (S3.chg c ho (dpa_set q' n g2)) ((st1.fz.trans st2.fz).trans st3.fz)⟩
      · cases h5
    · -- a shared one
      rename_i n c
      split at h5
      · rename_i xs cx
        split at h5
        · rename_i m en
          cases h5
          obtain ⟨u, q1, q2, q3⟩ := S3.slot i _ c
          rw [ho] at q1
          cases q1
          cases q2 with
          | w q2 =>
          cases q2 with
          | cell q2 =>
          obtain ⟨b, vs, g0, g1, g2⟩ := S3.st n xs cx
          rw [q2] at g0
          cases g0
          exact ⟨_, vs, j, m, rfl, rfl, g1, by rw [dpa_len g2]; exact en, fin _ F3 ι3 _ (S3.chgC q2 (dpa_set q' m g2)) ((st1.fz.trans st2.fz).trans st3.fz)⟩
        · cases h5
      · cases h5
    · cases h5
  · cases h5
theorem snd_app (O : XS g X sc) {i : Nat} {e : Ex} {y : Str} {v : Expr} {p apos cpos pos : Pos} (hv : okV g.N sc i y = true) (he : PE X v (tE g e)) (hn : notStar v = true) (hl : (apos.endLine == cpos.line) = true) :
    PS X (.Expr (.Call (.Attribute (.Name y p) "append" apos) [v] [] cpos) pos) (tSt g (.app i e)) := by
  refine PS.weak (ps_expr (pe_bm PySem.F.plainAttrs_list PySem.F.slot_list_append PySem.F.type_list_append mt_append (pe_varB O.ok hv) (pa1 he hn) rfl (by rw [star_of hn]; rfl) hl (star_of hn) plain0) rfl) fun D σ H ⟨E, F, ι, s, S0, fl, s', h, fin⟩ => ?_
  simp only [run] at h
  obtain ⟨_, s0, e0, h1⟩ := bd_some h
  obtain ⟨e1, e9⟩ := on_some e0
  cases e9
  obtain ⟨r, s1, e2, h2⟩ := bd_some h1
  obtain ⟨w, s2, e3, h3⟩ := bd_some h2
  obtain ⟨e4, e9⟩ := on_some e3
  cases e9
  split at e1
  · rename_i xs0 c0
    obtain ⟨u, q1, q2, q3⟩ := S0.slot i _ c0
    cases q2 with
    | @own a _ o =>
    obtain ⟨vs0, g1, g2⟩ := o.ex
    refine ⟨.ref a, q1, .inl ⟨rfl, vs0, SqL.of g1⟩, tE.go S0 e2 fun v F1 ι1 H1 S1 st1 rr fr => ?_⟩
    obtain ⟨F2, S2, st2, q⟩ := S1.froze rr fr e4
    split at h3
    · rename_i x xs c
      obtain ⟨u, p1, p2, p3⟩ := S2.slot i _ c
      rw [q1] at p1
      cases p1
      cases p2 with
      | own o2 =>
      obtain ⟨vs, k1, k2⟩ := o2.ex
      cases q with
      | d q =>
      split at h3
      · rename_i hl
        cases h3
        refine ⟨a, vs, v, rfl, rfl, k1, by rw [dpa_len k2, sizeL]; exact hl, ?_⟩
        exact fin _ F2 ι1 _ (S2.chg c q1 (dpa_app k2 (.cons q .nil))) (st1.fz.trans st2.fz)
      · cases h3
    · cases h3
  · cases e1
theorem snd_exp (O : XS g X sc) {e : Ex} {v : Expr} {pos : Pos} (he : PE X v (tE g e)) (hn : isComp v = false) : PS X (.Expr v pos) (tSt g (.exp e)) :=
  PS.weak (ps_expr he (sw_plain hn)) fun D σ H ⟨E, F, ι, s, S0, fl, s', h, fin⟩ => by
    simp only [run] at h
    obtain ⟨r, s1, e1, h2⟩ := bd_some h
    cases h2
    exact tE.go S0 e1 fun v F1 ι1 H1 S1 st1 rr fr => fin σ F1 ι1 H1 S1 st1.fz
theorem snd_ret {e : Ex} {v : Expr} {pos : Pos} (he : PE X v (tE g e)) : PS X (.Return (some v) pos) (tSt g (.ret e)) :=
  PS.weak (ps_ret he) fun D σ H ⟨E, F, ι, s, S0, fl, s', h, fin⟩ => by
    simp only [run] at h
    obtain ⟨r, s1, e1, h2⟩ := bd_some h
    refine tE.go S0 e1 fun v F1 ι1 H1 S1 st1 rr fr => ?_
    split at h2
    · cases h2
    · rename_i nb
      cases h2
      exact fin σ F1 ι1 H1 S1 st1.fz v rr fr fun xs z => nb xs z
theorem snd_retN {pos : Pos} : PS X (.Return none pos) (tSt g .retN) :=
  PS.weak ps_retN fun D σ H ⟨E, F, ι, s, S0, fl, s', h, fin⟩ => by
    simp only [run] at h
    cases h
    exact fin σ F ι H S0 (Same.refl _) .non (.w (.d .non)) fre_w fun _ z => by cases z
theorem snd_if {c : Ex} {a b : Sts} {t : Expr} {y z : List Stmt} {pos : Pos} (hc : PT X t (tT g c)) (ha : PSs X y (tSs g a)) (hb : PSs X z (tSs g b)) : PS X (.If t y z pos) (tSt g (.ite c a b)) :=
  PS.weak (ps_if hc ha hb) fun D σ H ⟨E, F, ι, s, S0, fl, s', h, fin⟩ => by
    simp only [run] at h
    obtain ⟨r, s1, e1, h2⟩ := bd_some h
    obtain ⟨k, s2, e2, h3⟩ := bd_some h2
    obtain ⟨e3, e9⟩ := on_some e2
    cases e9
    refine ⟨E, F, ι, s, S0, r, _, k, e1, e3, fun F1 ι1 H1 S1 st1 => ?_⟩
    cases k with
    | true =>
      rw [if_pos rfl] at h3
      exact iteT ⟨E, F1, ι1, _, S1, fl, s', h3, fin.more st1.fz⟩
    | false =>
      rw [if_neg Bool.false_ne_true] at h3
      exact iteF ⟨E, F1, ι1, _, S1, fl, s', h3, fin.more st1.fz⟩
theorem snd_for (O : XS g X sc) {tg : Tg} {it : It} {b : Sts} {t i : Expr} {y : List Stmt} {pos : Pos} (hi : PI X t i (tI g it)) (hg : PG X t (gT g tg)) (hb : PSs X y (tSs g b)) (hf : ∀ x, foldedSetIterable i X.env x = pure x) : PS X (.For t i y [] pos) (tSt g (.for_ tg it b)) :=
  PS.weak (ps_for (never_of O.ok) O.ok.calm hi hg hb hf) fun D σ H ⟨E, F, ι, s, S0, fl, s', h, fin⟩ => by
    simp only [run] at h
    obtain ⟨xs, s1, e1, h2⟩ := bd_some h
    generalize hfn : (fun (x : PyData) (s2 : S) => bd (on (bindT tg x s2.sl) s2) fun l s3 => runs g.cal g.G g.wf b ⟨l, s3.st⟩) = f at h2
    refine ⟨E, F, ι, s, S0, xs, s1, e1, fun J F1 ι1 H1 S1 st1 iok => ?_⟩
    refine ⟨fun i m σ H => m = xs.length - i ∧ i ≤ xs.length ∧ ∃ F ι s, Stt g.K g.fa E F ι s σ H ∧ Same F1 F ∧ loopL f (xs.drop i) s = some (fl, s'), ⟨xs.length, by simp, Nat.zero_le _, F1, ι1, s1, S1, Same.refl _, by rw [List.drop_zero]; exact h2⟩, ?_⟩
    rintro i m σ2 H2 ⟨rfl, hi, F2, ι2, s2, S2, sm2, e2⟩
    by_cases hlt : i < xs.length
    · have hx : xs[i]? = some xs[i] := List.getElem?_eq_getElem hlt
      rw [List.drop_eq_getElem_cons hlt] at e2
      simp only [loopL] at e2
      obtain ⟨o, s3, e3, e4⟩ := bd_some e2
      obtain ⟨go, yl⟩ := (iok H2 (sm2.trans S2.sub)).1 i _ hx
      refine .inr ⟨go, fun σ H => ∃ F ι s, Stt g.K g.fa E F ι s σ H ∧ Same F1 F ∧ loopL f (xs.drop (i + 1)) s = some (fl, s'), fun σ' H' q => ⟨xs.length - (i + 1), by omega, rfl, hlt, q⟩, fun x H' y => ?_⟩
      obtain ⟨F3, S3, st3, rr3, _⟩ := S2.made (Mk.mono sm2 (yl x H' y))
      rw [← hfn] at e3
      obtain ⟨l, s4, e5, e6⟩ := bd_some e3
      obtain ⟨e7, e9⟩ := on_some e5
      cases e9
      cases rr3 with
      | w q =>
      cases q with
      | d q =>
      refine ⟨E, F3, ι2, _, _, S3, q, l, e7, fun σ3 S4 _ => ⟨E, F3, ι2, _, S4, o, s3, e6, fun σ5 F5 ι5 H5 S5 sm5 => ?_⟩⟩
      have sm := (sm2.trans st3.fz).trans sm5
      cases o with
      | nx => exact ⟨F5, ι5, s3, S5, sm, e4⟩
      | ct => exact ⟨F5, ι5, s3, S5, sm, e4⟩
      | bk =>
        cases e4
        exact fin σ5 F5 ι5 H5 S5 (st1.fz.trans sm)
      | rt r =>
        cases e4
        exact fin σ5 F5 ι5 H5 S5 (st1.fz.trans sm)
    · have ei : i = xs.length := by omega
      subst ei
      rw [List.drop_length] at e2
      simp only [loopL] at e2
      cases e2
      exact .inl ⟨(iok H2 (sm2.trans S2.sub)).2, fin σ2 F2 ι2 H2 S2 (st1.fz.trans sm2)⟩
theorem snd_while (O : XS g X sc) {c : Ex} {b : Sts} {t : Expr} {y : List Stmt} {pos : Pos} (hc : PT X t (tT g c)) (hb : PSs X y (tSs g b)) : PS X (.While t y [] pos) (tSt g (.whl c b)) :=
  PS.weak (ps_while (never_of O.ok) hc hb) fun D σ H ⟨E, F, ι, s, S0, fl, s', h, fin⟩ => by
    simp only [run] at h
    generalize htn : (fun (s : S) => bd (ev g.cal g.G c s) fun x s1 => on (asB s1.st x) s1) = tf at h
    generalize hfn : (fun (s : S) => runs g.cal g.G g.wf b s) = f at h
    refine ⟨fun m σ H => ∃ F2 ι s, Stt g.K g.fa E F2 ι s σ H ∧ Same F F2 ∧ loopW tf f m s = some (fl, s'), ⟨g.wf, F, ι, s, S0, Same.refl _, h⟩, ?_⟩
    rintro m σ2 H2 ⟨F2, ι2, s2, S2, sm2, e2⟩
    cases m with
    | zero => simp only [loopW] at e2; cases e2
    | succ n =>
    simp only [loopW] at e2
    obtain ⟨k, s3, e3, e4⟩ := bd_some e2
    rw [← htn] at e3
    obtain ⟨r, s4, e5, e6⟩ := bd_some e3
    obtain ⟨e7, e9⟩ := on_some e6
    cases e9
    refine ⟨E, F2, ι2, s2, S2, r, _, k, e5, e7, fun F3 ι3 H3 S3 st3 => ?_⟩
    cases k with
    | false =>
      rw [if_neg Bool.false_ne_true] at e4
      cases e4
      exact iteF (fin σ2 F3 ι3 H3 S3 (sm2.trans st3.fz))
    | true =>
      rw [if_pos rfl] at e4
      refine iteT ?_
      obtain ⟨o, s5, e8, e10⟩ := bd_some e4
      rw [← hfn] at e8
      refine ⟨fun σ H => ∃ F2 ι s, Stt g.K g.fa E F2 ι s σ H ∧ Same F F2 ∧ loopW tf f n s = some (fl, s'), fun σ' H' q => ⟨n, Nat.lt_succ_self n, q⟩, E, F3, ι3, _, S3, o, s5, e8, fun σ5 F5 ι5 H5 S5 sm5 => ?_⟩
      have sm := (sm2.trans st3.fz).trans sm5
      cases o with
      | nx => exact ⟨F5, ι5, s5, S5, sm, e10⟩
      | ct => exact ⟨F5, ι5, s5, S5, sm, e10⟩
      | bk =>
        cases e10
        exact fin σ5 F5 ι5 H5 S5 sm
      | rt r =>
        cases e10
        exact fin σ5 F5 ι5 H5 S5 sm
theorem snd_brk {pos : Pos} : PS X (.Break pos) (tSt g .brk) := PS.weak ps_break fun D σ H ⟨E, F, ι, s, S0, fl, s', h, fin⟩ => by
  simp only [run] at h
  cases h
  exact fin σ F ι H S0 (Same.refl _)
theorem snd_cnt {pos : Pos} : PS X (.Continue pos) (tSt g .cnt) := PS.weak ps_continue fun D σ H ⟨E, F, ι, s, S0, fl, s', h, fin⟩ => by
  simp only [run] at h
  cases h
  exact fin σ F ι H S0 (Same.refl _)
theorem snd_pass {pos : Pos} : PS X (.Pass pos) (tSt g .pass) := PS.weak ps_pass fun D σ H ⟨E, F, ι, s, S0, fl, s', h, fin⟩ => by
  simp only [run] at h
  cases h
  exact fin σ F ι H S0 (Same.refl _)
theorem snd_never {x : Stmt} : PS X x (tSt g .never) := PS.weak ps_never fun D σ H ⟨E, F, ι, s, S0, fl, s', h, fin⟩ => by
  simp only [run] at h
  cases h
theorem snd_sn : PSs X [] (tSs g .nil) := PSs.weak pss_nil fun D σ H ⟨E, F, ι, s, S0, fl, s', h, fin⟩ => by
  simp only [runs] at h
  cases h
  exact fin σ F ι H S0 (Same.refl _)
theorem snd_sc {a : St} {r : Sts} {x : Stmt} {xs : List Stmt} (h1 : PS X x (tSt g a)) (h2 : PSs X xs (tSs g r)) : PSs X (x :: xs) (tSs g (.cons a r)) := PSs.weak (pss_cons h1 h2) fun D σ H ⟨E, F, ι, s, S0, fl, s', h, fin⟩ => by
  simp only [runs] at h
  obtain ⟨f1, s1, e1, h2⟩ := bd_some h
  refine ⟨E, F, ι, s, S0, f1, s1, e1, fun σ2 F2 ι2 H2 S2 sm => ?_⟩
  cases f1 with
  | nx => exact ⟨E, F2, ι2, s1, S2, fl, s', h2, fin.more sm⟩
  | bk => cases h2; exact fin σ2 F2 ι2 H2 S2 sm
  | ct => cases h2; exact fin σ2 F2 ι2 H2 S2 sm
  | rt r => cases h2; exact fin σ2 F2 ι2 H2 S2 sm
end
end Xp

/-! E14: every block of the small language. -/
namespace Xp
open PySem PySem.Spec PyProof.Rows L2
section
variable {g : Gd}
/-- name = a comprehension on one line -/
theorem snd_setLc {X : Cx} {sc : Scope} (O : XS g X sc) {i : Nat} {own : List Nat} {tg : Tg} {it : It} {c x : Ex} {v : Expr} {y : Str} {py pos : Pos} (hv : chkV g.N i sc (.Name y py) = true) (hy : sc.names.lookup y = some .local) (h : chk g.N g.L (.lc own tg it c x) sc v = true) (hw : swC v y py sc = true) :
    PS X (.Assign [.Name y py] v pos) (tSt g (.asg (.v i) (.lc own tg it c x))) := by
  unfold chk at h
  split at h
  · rename_i elt t iter ifs scope ps
    simp only [Bool.and_eq_true] at h
    obtain ⟨⟨⟨⟨⟨h1, h2⟩, h3⟩, h4⟩, h5⟩, h6⟩ := h
    have ht : ∀ j ∈ tgv tg, j ∈ own := fun j hj => by
      have := List.all_eq_true.mp h2 j hj
      simpa using this
    have eo : (own.map fun j => (g.N.getD j "", j)).map (·.2) = own := by
      rw [List.map_map]
      exact List.map_id _
    have tests : ∀ (s : Shared) (H : Hp) (C : Addr) (cl : List (Str × Addr)) (fp : List Addr), PTs (X.blk s H scope (compEnvC scope cl C X.env) fp) ifs (tT g c) := fun s H C cl fp => by
      split at h5
      · split at h5
        · exact pts_yes
        · cases h5
      · exact pts_one (snd_e c _ _ _ (O.ok.blk s H scope C cl fp) h5).2
      · cases h5
    have hi : g.N[i]? = some y := by
      unfold chkV at hv
      simp only [Bool.and_eq_true, decide_eq_true_eq] at hv
      exact hv.1
    have hk : X.env.scope.kind = .function := O.kind
    have pl : PS X (.Assign [.Name y py] (.ListComp elt [⟨t, iter, ifs, 0⟩] scope ps) pos) (tAsg (tLc (tI g it) (gT g tg) (tT g c) (tE g x) ((own.map fun j => (g.N.getD j "", j)).map (·.2))) (gName i)) :=
      ps_setLc O.ok.calm O.ok.nd (by rw [O.ok.eN]; exact hi) (by rw [O.ok.sc]; exact hy) (swC_ok hk (by rw [O.ok.sc]; exact hw)) (snd_i it X sc t iter O.ok h3) (by rw [O.ok.eN, O.ok.sc]; exact blkOk_by h1) (fun s H C cl fp => snd_tg (O.ok.blk s H scope C cl fp) (sto_blk s H scope C cl fp) tg t h4) tests (fun s H C cl fp => (snd_e x _ _ _ (O.ok.blk s H scope C cl fp) h6).1) (chkI_fold h3)
    rw [eo] at pl
    exact PS.weak pl fun D σ H q => lc_r O.ok ht σ H _ (asgv_r D σ H q)
  · cases h
theorem asgt_s {X : Cx} {sc : Scope} (O : XS g X sc) {tg : Tg} {e : Ex} {x : Stmt} (hne : ∀ i, tg ≠ .v i) (ih : ∀ v, chk g.N g.L e sc v = true → Both g X v e)
    (h : (match x with
    | .Assign [t] v _ => (match t with
      | .Tuple ts _ _ => chkT g.N tg sc t && chk g.N g.L e sc v && (match v with | .Tuple vs _ _ => decide (swp ts vs sc = some none) | _ => true)
      | _ => false)
    | _ => false) = true) : PS X x (tSt g (.asg tg e)) := by
  split at h
  · split at h
    · simp only [Bool.and_eq_true] at h
      obtain ⟨⟨h1, h2⟩, h3⟩ := h
      refine snd_asgt O hne h1 (ih _ h2).1 ?_
      split at h3
      · exact swp_ok O.ok.sc (by rw [← O.ok.sc]; exact O.kind) (of_decide_eq_true h3)
      · rename_i nt
        exact tup_plain (by split <;> first | rfl | exact absurd rfl (nt _ _ _))
    · cases h
  · cases h
mutual
theorem snd_s : ∀ (a : St) (X : Cx) (sc : Scope) (x : Stmt), XS g X sc → chkS g.N g.L a sc x = true → PS X x (tSt g a)
  | .asg (.v i) e, X, sc, x, O, h => by
    unfold chkS at h
    split at h
    · split at h
      · rename_i t v pos y py
        simp only [Bool.and_eq_true, Bool.or_eq_true, Bool.not_eq_true'] at h
        obtain ⟨⟨h1, h2⟩, h3⟩ := h
        rcases h3 with h3 | h3
        · exact snd_asgv O h1 (snd_e e X sc _ O.ok h2).1 h3
        · split at h3
          · simp only [Bool.and_eq_true, decide_eq_true_eq] at h3
            exact snd_setLc O h1 h3.2 h2 h3.1
          · cases h3
      · cases h
    · cases h
  | .asg .nil e, X, sc, x, O, h => asgt_s O (fun i z => by cases z) (fun v => (snd_e e X sc v O.ok)) (by unfold chkS at h; exact h)
  | .asg (.cons a b) e, X, sc, x, O, h => asgt_s O (fun i z => by cases z) (fun v => (snd_e e X sc v O.ok)) (by unfold chkS at h; exact h)
  | .asgC i e, X, sc, x, O, h => by
    unfold chkS at h
    split at h
    · split at h
      · simp only [Bool.and_eq_true, Bool.not_eq_true'] at h
        exact snd_asgC O h.1.1 (snd_e e X sc _ O.ok h.1.2).1 h.2
      · cases h
    · cases h
  | .par is es, X, sc, x, O, h => by
    unfold chkS at h
    split at h
    · split at h
      · split at h
        · simp only [Bool.and_eq_true, decide_eq_true_eq] at h
          obtain ⟨⟨⟨⟨⟨⟨h1, h2⟩, h3⟩, h4⟩, h5⟩, h6⟩, h7⟩ := h
          exact snd_par2 O h1 h2 h3 h4 h5 (snd_a es X sc _ O.ok h6) h7
        · cases h
      · split at h
        · simp only [Bool.and_eq_true, decide_eq_true_eq] at h
          obtain ⟨⟨⟨⟨⟨⟨⟨⟨⟨⟨h1, h2⟩, h3⟩, h4⟩, h5⟩, h6⟩, h7⟩, h8⟩, h9⟩, h10⟩, h11⟩ := h
          exact snd_par3 O h1 h2 h3 h4 h5 h6 h7 h8 h9 (snd_a es X sc _ O.ok h10) h11
        · cases h
      · cases h
    · cases h
  | .setv i k e, X, sc, x, O, h => by
    unfold chkS at h
    split at h
    · simp only [Bool.and_eq_true] at h
      obtain ⟨⟨⟨h1, h2⟩, h3⟩, h4⟩ := h
      exact snd_setv O h1 h3 (snd_e k X sc _ O.ok h2).1 (snd_e e X sc _ O.ok h4).1
    · cases h
  | .app i e, X, sc, x, O, h => by
    unfold chkS at h
    split at h
    · simp only [Bool.and_eq_true, decide_eq_true_eq] at h
      obtain ⟨⟨⟨⟨h1, rfl⟩, h3⟩, h4⟩, h5⟩ := h
      exact snd_app O h1 (snd_e e X sc _ O.ok h3).1 h4 h5
    · cases h
  | .ins _ _ _, X, sc, x, O, h => by unfold chkS at h; cases h
  | .exp e, X, sc, x, O, h => by
    unfold chkS at h
    split at h
    · simp only [Bool.and_eq_true, Bool.not_eq_true'] at h
      exact snd_exp O (snd_e e X sc _ O.ok h.1).1 h.2
    · cases h
  | .ret e, X, sc, x, O, h => by
    unfold chkS at h
    split at h
    · exact snd_ret (snd_e e X sc _ O.ok h).1
    · cases h
  | .retN, X, sc, x, O, h => by
    unfold chkS at h
    split at h
    · exact snd_retN
    · cases h
  | .ite c a b, X, sc, x, O, h => by
    unfold chkS at h
    split at h
    · simp only [Bool.and_eq_true] at h
      exact snd_if (snd_e c X sc _ O.ok h.1.1).2 (snd_ss a X sc _ O h.1.2) (snd_ss b X sc _ O h.2)
    · cases h
  | .for_ tg it b, X, sc, x, O, h => by
    unfold chkS at h
    split at h
    · simp only [Bool.and_eq_true] at h
      exact snd_for O (snd_i it X sc _ _ O.ok h.1.2) (snd_tg O.ok O.sto tg _ h.1.1) (snd_ss b X sc _ O h.2) (chkI_fold h.1.2)
    · cases h
  | .whl c b, X, sc, x, O, h => by
    unfold chkS at h
    split at h
    · simp only [Bool.and_eq_true] at h
      exact snd_while O (snd_e c X sc _ O.ok h.1).2 (snd_ss b X sc _ O h.2)
    · cases h
  | .brk, X, sc, x, O, h => by
    unfold chkS at h
    split at h
    · exact snd_brk
    · cases h
  | .cnt, X, sc, x, O, h => by
    unfold chkS at h
    split at h
    · exact snd_cnt
    · cases h
  | .pass, X, sc, x, O, h => by
    unfold chkS at h
    split at h
    · exact snd_pass
    · cases h
  | .never, X, sc, x, O, h => snd_never
theorem snd_ss : ∀ (a : Sts) (X : Cx) (sc : Scope) (l : List Stmt), XS g X sc → chkSs g.N g.L a sc l = true → PSs X l (tSs g a)
  | .nil, X, sc, l, O, h => by
    unfold chkSs at h
    simp only [List.isEmpty_iff] at h
    subst h
    exact snd_sn
  | .cons a r, X, sc, l, O, h => by
    unfold chkSs at h
    split at h
    · simp only [Bool.and_eq_true] at h
      exact snd_sc (snd_s a X sc _ O h.1) (snd_ss r X sc _ O h.2)
    · cases h
end
end
end Xp

/-! E15: every def keeps its promise. -/
namespace Xp
open PySem PySem.Spec PyProof.Rows L2
def CXn : CXT := fun _ _ _ _ _ _ => False
def En : XK := fun _ _ _ => False
structure FnG (P : Program) (w : World) (K : PySem.W.Frag) (mg : Str → Option Value) (base : Heap) (k : Nat) (f : Addr) (fd : FuncData) (ps : List Str) (sp : Sp) : Prop where
  len : ∀ vs H Q, sp vs H Q En → vs.length = ps.length
  run : ∀ (A : Around) (outer : List Env) (s : Shared) (H : Hp) (args : Args) (us : List Value) (vs : List V) (Q : VK), A.guards = some [] → Room k A → Env0 P w K mg base A outer s H → BindsTo s fd args (ps.zip us) → Vals vs us → sp vs H Q En →
    codeAny (model P w) A (.call (.ref f) args) (CR CXn outer P w H s Q En) s
/-- a def of the text by its body, where no guard stands -/
theorem fnG_of {P : Program} {w : World} {K : PySem.W.Frag} {mg : Str → Option Value} {base : Heap} {k : Nat} {f : Addr} {name qual : Str} {params : Arguments} {body : List Stmt} {scope : Scope} {dvs : List V} {kws : List (Str × V)} {fd : FuncData}
    {N ps : List Str} {sp : Sp} (F : FunD K name qual params body scope dvs kws f fd) (S : FnScope N ps scope) (len : ∀ vs H Q, sp vs H Q En → vs.length = ps.length)
    (hbody : ∀ (cdv : Value) (A : Around) (outer : List Env) (s : Shared) (H : Hp) (vs : List V) (Q : VK), A.guards = some [] → Room k (A.deeper (envOfC qual scope s.heap.objs.size f cdv)) → sp vs H Q En →
      ∃ t, PSs (cxOf CXn P w K mg base N qual scope f cdv A outer s H En).nox body t ∧ t { nx := fun _ H' => Q .non H', rt := Q } (start N vs) H) :
    FnG P w K mg base (k + 1) f fd ps sp := by
  obtain ⟨oc, od, dV, kV, doc, pm, an, cdv, ct, osl, rfl, lk, hcd, _, _⟩ := F.ex
  refine ⟨len, fun A outer s H args us vs Q hg hr e0 hb r hsp => ?_⟩
  have up : ∀ b o, base.get? b = some o → s.heap.get? b = some o := fun b o e => (e0.bs b o e).1
  have kin := e0.mod.kin.keeps up
  have nl := e0.mod.nolimit.keeps up
  refine codeAny_call_function hr.depth (kin _ _ lk) rfl S.co S.gen rfl (PySem.W.codeRec_of kin hcd) (hb _ _ _ _ ?_)
  refine wpAny_newFunctionEnv_cells S.kind (fun ⟨n, v⟩ hy => ?_) fun env he s1 x => ?_
  · rcases S.par n (List.of_mem_zip hy).1 with q | q
    · exact .inl q
    · exact .inr ⟨q, PySem.W.cellsFrom_some _ _ _ (.inl q)⟩
  · subst he
    refine ⟨nl.keeps x.toInCall.keep, codeAny_func ?_⟩
    obtain ⟨t, ht, hq⟩ := hbody cdv A outer s H vs Q hg (hr.deeper _) hsp
    refine wpAny_mono (ht.nox.run [] s1 (start N vs) H _ (inv_start S hr.hd e0 (len _ _ _ hsp) r x) hq) (fun fl s' hs => ?_) fun e s' hs => hs
    cases fl with
    | ret u =>
      obtain ⟨v, σ', H', J, rv, q⟩ := hs
      exact ⟨v, H', J.os, J.bare, J.base, J.hok, rv, q⟩
    | next =>
      obtain ⟨σ', H', J, q⟩ := hs
      exact ⟨.non, H', J.os, J.bare, J.base, J.hok, rfl, q⟩
    | brk =>
      obtain ⟨_, _, _, q⟩ := hs
      exact False.elim q
    | cont =>
      obtain ⟨_, _, _, q⟩ := hs
      exact False.elim q
/-- called from a body -/
theorem callG {Y : Cx} {k : Nat} {f : Addr} {fd : FuncData} {ps : List Str} {sp : Sp} (F : FnG Y.prog Y.w Y.K Y.mg Y.base k f fd ps sp) (hg : Y.A.guards = some []) (hr : Room k Y.A) (hb : Binds Y.K fd ps []) : CallR Y (.ref f) (fun vs H Q => sp vs H Q En) := by
  intro pins s σ H vs us Q I r h
  have hl : (us ++ ([] : List Value)).length = ps.length := by rw [List.append_nil, ← r.length]; exact F.len _ _ _ h
  have hb' := hb s us I.kIn hl
  rw [List.append_nil] at hb'
  refine wpAny_call (codeAny_mono (F.run Y.A Y.stack s H ⟨us, []⟩ us vs Q hg hr I.env0 hb' r h) fun r s' hq => ?_)
  cases r with
  | error e => exact False.elim hq
  | ok fl =>
    cases fl with
    | ret u => exact I.after hq
    | next => exact False.elim hq
    | brk => exact False.elim hq
    | cont => exact False.elim hq

/-! ### the module -/
def scB (N ps : List Str) (sc : Scope) : Bool := decide (sc.kind = .function) && !sc.isCoroutine && !sc.isGenerator && decide N.Nodup && decide (N.take ps.length = ps) && ps.all (fun x => decide (sc.names.lookup x = some .local) || decide (sc.names.lookup x = some .cell)) && sc.names.all (fun y => !decide (y.2 = .free))
theorem scB_ok {N ps : List Str} {sc : Scope} (h : scB N ps sc = true) : FnScope N ps sc := by
  unfold scB at h
  simp only [Bool.and_eq_true, Bool.not_eq_true', decide_eq_true_eq, List.all_eq_true, Bool.or_eq_true, decide_eq_false_iff_not] at h
  exact ⟨h.1.1.1.1.1.1, h.1.1.1.1.1.2, h.1.1.1.1.2, h.1.1.1.2, h.1.1.2, h.1.2, h.2⟩
structure Dfn where
  name : Str
  ps : List Str
  N : List Str
  params : Arguments
  body : List Stmt
  scope : Scope
  df : Df
def Dfn.ok (L : Lk) (d : Dfn) : Bool := scB d.N d.ps d.scope && chkSs d.N L d.df.body d.scope d.body && decide (d.df.np = d.ps.length) && decide (d.df.nn = d.N.length)
structure Md (K : PySem.W.Frag) (mg : Str → Option Value) (fa : Nat → Option Addr) (L : Lk) (G : List PyData) (D : List Dfn) : Prop where
  fnl : ∀ (i : Nat) (x : Str), L.fn[i]? = some x → ∃ d, D[i]? = some d ∧ d.name = x
  fns : ∀ (i : Nat) (d : Dfn), D[i]? = some d → ∃ a fd, fa i = some a ∧ mg d.name = some (.ref a) ∧ FunD K d.name d.name d.params d.body d.scope [] [] a fd ∧ Binds K fd d.ps []
  flt : ∀ (i : Nat) (a : Addr), fa i = some a → i < D.length
  oks : ∀ d ∈ D, d.ok L = true
  gls : ∀ (i : Nat) (x : Str), L.gl[i]? = some x → ∃ (u : Value) (v : V) (d : PyData), mg x = some u ∧ RelV v u ∧ G[i]? = some d ∧ ∀ F, Dq K F v d
  blt : ∀ x ∈ bnames, mg x = none
  gcd : L.gc = true → mg "gcd" = some (.builtin "math.gcd")
section
variable {P : Program} {w : World} {K : PySem.W.Frag} {mg : Str → Option Value} {base : Heap} {fa : Nat → Option Addr} {L : Lk} {G : List PyData} {D : List Dfn} {wf : Nat}
def gd (K : PySem.W.Frag) (fa : Nat → Option Addr) (L : Lk) (G : List PyData) (D : List Dfn) (wf : Nat) (N : List Str) (k : Nat) : Gd := ⟨K, fa, N, L, G, call (D.map (·.df)) G wf k, wf⟩
theorem spF_N {N N' : List Str} {k : Nat} {f : Nat} {vs : List V} {H : Hp} {Q : VK} {E : XK} (h : spF (gd K fa L G D wf N k) f vs H Q E) : spF (gd K fa L G D wf N' k) f vs H Q E := h
theorem dfs_get {f : Nat} {d : Dfn} (h : D[f]? = some d) : (D.map (·.df))[f]? = some d.df := by rw [List.getElem?_map, h]; rfl
theorem rws_get {F : Hp} {ι : List Addr} : ∀ {vs : List V} {ws : List W} (i : Nat) (r : R), RWs K fa F ι vs ws → (ws.map fun w => some (R.w w))[i]? = some (some r) → ∃ v : V, (vs.map some)[i]? = some (some v) ∧ ∃ w, r = .w w ∧ RW K fa F ι v w
  | _, _, i, r, .nil, h => by simp at h
  | _, _, 0, r, .cons q t, h => by
    simp at h
    subst h
    exact ⟨_, rfl, _, rfl, q⟩
  | _, _, i + 1, r, .cons q t, h => by
    obtain ⟨v, h1, h2⟩ := rws_get i r t (by simpa using h)
    exact ⟨v, by simpa using h1, h2⟩
/-- at a def's entry -/
theorem enter {F H : Hp} {ι : List Addr} {st : List Cell} {vs : List V} {ws : List W} {n m : Nat} (hs : Same F H) (cs : Cs K F ι H st) (q : RWs K fa F ι vs ws) (hn : n - vs.length = m - ws.length) (hle : True) :
    Stt K fa ⟨F, ι, H, fun _ => False⟩ F ι ⟨ws.map (fun w => some (.w w)) ++ List.replicate (m - ws.length) none, st⟩ (vs.map some ++ List.replicate (n - vs.length) none) H := by
  have get : ∀ (i : Nat) (r : R), (ws.map (fun w => some (R.w w)) ++ List.replicate (m - ws.length) none)[i]? = some (some r) → ∃ v : V, (vs.map some ++ List.replicate (n - vs.length) none)[i]? = some (some v) ∧ ∃ w, r = .w w ∧ RW K fa F ι v w := fun i r h => by
    by_cases c : i < ws.length
    · rw [List.getElem?_append_left (by simpa using c)] at h
      obtain ⟨v, h1, h2⟩ := rws_get i r q h
      refine ⟨v, ?_, h2⟩
      rw [List.getElem?_append_left (by rw [List.length_map, q.len]; exact c)]
      exact h1
    · rw [List.getElem?_append_right (by simpa using c), List.getElem?_replicate] at h
      split at h <;> cases h
  refine { sub := hs, step := Stp.rfl, nofz := fun b o e => .inl e, len := by simp only [List.length_append, List.length_map, List.length_replicate]; rw [hn, q.len], slot := fun i r h => ?_, new := fun i xs a o' hb => ?_, dist := fun i j xs ys _ o1 o2 => ?_, st := cs.st, nfz := cs.nfz, stl := cs.stl, nd := cs.nd, res := fun b hb => hb.elim }
  · obtain ⟨v, h1, w, rfl, h3⟩ := get i r h
    exact ⟨v, h1, .w h3, fun xs z => by cases z⟩
  · obtain ⟨v, h1, w, h2, h3⟩ := get i _ o'
    cases h2
  · obtain ⟨v, h1, w, h2, h3⟩ := get i _ o1
    cases h2
theorem cal_len {k f : Nat} {d : Dfn} {ws : List W} {st : List Cell} {y : R × List Cell} (hd : D[f]? = some d) (h : call (D.map (·.df)) G wf k f ws st = some y) : ws.length = d.df.np := by
  cases k with
  | zero => simp only [call] at h; cases h
  | succ k =>
    simp only [call] at h
    rw [dfs_get hd] at h
    simp only at h
    split at h
    · assumption
    · cases h
theorem all_fn (M : Md K mg fa L G D) : ∀ (k f : Nat) (d : Dfn) (a : Addr) (fd : FuncData), D[f]? = some d → fa f = some a → FunD K d.name d.name d.params d.body d.scope [] [] a fd → FnG P w K mg base k a fd d.ps (spF (gd K fa L G D wf [] k) f)
  | 0, f, d, a, fd, hd, ha, F => by
    have no : ∀ vs H Q E, ¬ spF (gd K fa L G D wf [] 0) f vs H Q E := fun vs H Q E ⟨_, _, _, _, _, _, _, r, st', h, _⟩ => by
      cases h
    exact ⟨fun vs H Q h => (no vs H Q _ h).elim, fun A outer s H args us vs Q _ _ _ _ _ h => (no vs H Q _ h).elim⟩
  | k + 1, f, d, a, fd, hd, ha, F => by
    have ih := all_fn M k
    have ok := M.oks d (List.mem_of_getElem? hd)
    unfold Dfn.ok at ok
    simp only [Bool.and_eq_true, decide_eq_true_eq] at ok
    obtain ⟨⟨⟨h1, h2⟩, h3⟩, h4⟩ := ok
    have Sc := scB_ok h1
    have hl : ∀ vs H Q, spF (gd K fa L G D wf [] (k + 1)) f vs H Q En → vs.length = d.ps.length := fun vs H Q ⟨F, ι, st, ws, _, _, q, r, st', h, _⟩ => by
      rw [q.len, ← h3]
      exact cal_len hd h
    refine fnG_of F Sc hl fun cdv A outer s H vs Q hg hr hsp => ?_
    have O : XOk (gd K fa L G D wf d.N k) (cxOf CXn P w K mg base d.N d.name d.scope a cdv A outer s H En).nox d.scope := {
      eK := rfl
      calm := rfl
      eN := rfl
      nd := Sc.nd
      sc := rfl
      room := by have := hr.un; show (A.deeper _).units + 100 < cLine; omega
      grd := hg
      fns := fun i x hx => by
        obtain ⟨d', g1, rfl⟩ := M.fnl i x hx
        obtain ⟨b, fd', g2, g3, g4, g5⟩ := M.fns i d' g1
        exact ⟨b, g2, g3, g4.kp⟩
      fcl := fun i b hb => by
        have hlt := M.flt i b hb
        have hd' : D[i]? = some D[i] := List.getElem?_eq_getElem hlt
        obtain ⟨b', fd', g2, g3, g4, g5⟩ := M.fns i _ hd'
        have e : b' = b := Option.some.inj (g2.symm.trans hb)
        subst e
        refine ⟨g4.kp, fun Y y1 y2 y3 y4 y5 y6 => ?_⟩
        have FG := ih i _ b' fd' hd' hb g4
        rw [show P = Y.prog from y1.symm, show w = Y.w from y2.symm, show K = Y.K from y3.symm, show mg = Y.mg from y4.symm, show base = Y.base from y5.symm] at FG
        have e6 : Y.A = A.deeper (envOfC d.name d.scope s.heap.objs.size a cdv) := y6
        have y3' : Y.K = K := y3
        have cr := callG FG (by rw [e6]; exact hg) (by rw [e6]; exact hr) (by rw [y3']; exact g5)
        rw [y3'] at cr
        exact cr
      gls := M.gls
      blt := M.blt
      xe := rfl
      gcd := M.gcd }
    refine ⟨tSs (gd K fa L G D wf d.N k) d.df.body, snd_ss d.df.body _ d.scope d.body ⟨O, fun x => ⟨fun z => z, fun z => ⟨z, rfl⟩⟩, Sc.kind⟩ h2, ?_⟩
    obtain ⟨F0, ι, st, ws, e1, e2, e3, r, st', e4, e5⟩ := hsp
    have e4' : call (D.map (·.df)) G wf (k + 1) f ws st = some (r, st') := e4
    have hn := cal_len hd e4'
    simp only [call] at e4'
    rw [dfs_get hd] at e4'
    simp only at e4'
    rw [if_pos hn] at e4'
    have Hs := enter (n := d.N.length) (m := d.df.nn) e1 e2 e3 (by rw [e3.len, h4]) trivial
    rw [hn] at Hs
    have fin : ∀ (s' : S) {σ' : L2.St} {F' : Hp} {ι' : List Addr} {H' : Hp} {v : V} {r : R}, Stt K fa ⟨F0, ι, H, fun _ => False⟩ F' ι' s' σ' H' → RR K fa F' ι' H' v r → Fre ⟨F0, ι, H, fun _ => False⟩ s' σ' v r → (∀ xs, r ≠ .bor xs) → Cd K fa F0 ι H F' ι' H' s'.st v r :=
      fun s' {σ' F' ι' H' v r} S' rr fr nb => ⟨S'.step, S'.sub, S'.nofz, S'.cs, rr, fun xs b z1 z2 => (fr xs b z1 z2).1, nb⟩
    split at e4'
    · rename_i r0 s0 er
      cases e4'
      exact ⟨_, F0, ι, _, Hs, _, s0, er, fun σ' F' ι' H' S' _ v rr fr nb => e5 v F' ι' H' (fin s0 S' rr fr nb)⟩
    · rename_i s0 er
      cases e4'
      exact ⟨_, F0, ι, _, Hs, _, s0, er, fun σ' F' ι' H' S' _ => e5 .non F' ι' H' (fin s0 S' (.w (.d .non)) fre_w fun _ z => by cases z)⟩
    · cases e4'
end
end Xp

/-! E16: a law's end; the head. -/
namespace Xp
open PySem PySem.Spec PyProof.Rows L2
/-- the law, called at a script -/
theorem end_call {P : Program} {w : World} {K : PySem.W.Frag} {mg mb : Str → Option Value} {k : Nat} {fa a : Addr} {fd : FuncData} {x : Str} {sp : Sp} {s₁ : Shared} {vs : List Value} {ns : List Int}
    (kin : K.In s₁.heap) (hns : s₁.heap.Ns mainGlobals mg) (hb : s₁.heap.Ns builtinsNs mb) (hbb : ∀ x : Str, x ≠ "__name__" → mb x = bootBuiltins x) (hlim : s₁.heap.NoLimit) (hg : s₁.gens = #[])
    (ha : s₁.heap.get? a = some { cls := .type "list", data := .seq vs.toArray }) (hi : IntsAre vs ns) (hl : ns.length ≤ sizeLine) (hr : Room k callerA) (hgd : callerA.guards = some [])
    (F : ∀ base : Heap, K.In base → base.Ns mainGlobals mg → FnG P w K mg base k fa fd [x] sp) (hbind : ∀ (s : Shared) (u : Value), BindsTo s fd ⟨[u], []⟩ [(x, u)])
    (hsp : ∀ H : Hp, SqL K H a (ns.map V.int) → sp [.ref a] H (fun v _ => v = .bl true) En) :
    codeAny (model P w) callerA (.call (.ref fa) ⟨[.ref a], []⟩) (fun r s' => r = .ok (.ret (.bool true)) ∧ OldK s₁.heap s'.heap ∧ s'.os = s₁.os ∧ AllBare s'.gens) s₁ := by
  have len := hi.length
  have rel := vals_ints hi
  have go : ∀ H : Hp, (∀ b, H b = none ∨ ∃ o xs, H b = some (.frz o (.lst xs))) → SqL K H a (ns.map V.int) → HOk P w H s₁.heap → (∀ b, H b ≠ none → b = a) → (H a ≠ none → K.lookup a = none) →
      codeAny (model P w) callerA (.call (.ref fa) ⟨[.ref a], []⟩) (fun r s' => r = .ok (.ret (.bool true)) ∧ OldK s₁.heap s'.heap ∧ s'.os = s₁.os ∧ AllBare s'.gens) s₁ := by
    intro H only sq hok isA offK
    have none_of : ∀ {b : Addr}, (b = a → False) → H b = none := fun {b} nb => by
      cases q : H b with
      | none => rfl
      | some u => exact (nb (isA b (by rw [q]; exact fun z => by cases z))).elim
    have below : ∀ {b : Addr} {o : Obj}, s₁.heap.get? b = some o → H b = none → (hidT s₁.heap H).get? b = some o := hidT_get
    have nsB : ∀ {b : Addr} {m : Str → Option Value}, s₁.heap.Ns b m → (hidT s₁.heap H).Ns b m := fun {b m} ⟨o, es, ep, e, d, r⟩ => ⟨o, es, ep, below e (none_of fun z => by
      subst z
      rw [ha] at e
      cases e
      cases d), d, r⟩
    have kinB : K.In (hidT s₁.heap H) := fun b o e => below (kin b o e) (by
      cases q : H b with
      | none => rfl
      | some u =>
        have z := isA b (by rw [q]; exact fun z => by cases z)
        subst z
        rw [offK (by rw [q]; exact fun z => by cases z)] at e
        cases e)
    obtain ⟨mc, l1, l2⟩ := hlim
    have e0 : Env0 P w K mg (hidT s₁.heap H) callerA [] s₁ H := ⟨rfl, ⟨kinB, nsB hns, ⟨mb, nsB hb, hbb⟩, ⟨mc, nsB l1, l2⟩⟩, fun b o e => of_hidT e, Nat.le_of_eq (hidT_size _ _), trivial, fun b hb => absurd (show b ∈ ([] : List Addr) from hb) (by simp), hok, .of_eq hg⟩
    refine codeAny_mono ((F _ kinB (nsB hns)).run callerA [] s₁ H ⟨[.ref a], []⟩ [.ref a] [.ref a] _ hgd hr e0 (hbind s₁ (.ref a)) (.cons rfl .nil) (hsp H sq)) fun r s' h => ?_
    cases r with
    | error e => exact False.elim h
    | ok fl =>
      cases fl with
      | next => exact False.elim h
      | brk => exact False.elim h
      | cont => exact False.elim h
      | ret u =>
        obtain ⟨v, H', os, bare, un, hok', rv, q⟩ := h
        have q' : v = .bl true := q
        subst q'
        obtain rfl : u = Value.bool true := rv
        refine ⟨rfl, OldK.of_keep fun b o e => ?_, os, bare⟩
        rcases only b with z | ⟨ob, xs, z⟩
        · exact un.keep b o e z (by intro z; exact absurd (show b ∈ ([] : List Addr) from z) (by simp)) (by simp)
        · obtain ⟨e1, _⟩ := hok b _ z
          obtain ⟨e2, _⟩ := hok' b _ (un.frzs b ob _ z)
          rw [e] at e1
          cases e1
          exact e2
  have size : vs.toArray.size ≤ sizeLine := by rw [List.size_toArray, len]; exact hl
  cases hk : K.lookup a with
  | some o =>
    have e := kin a o hk
    rw [ha] at e
    cases e
    exact go (fun _ => none) (fun _ => .inl rfl) (.inr ⟨_, vs.toArray, _, hk, rfl, rfl, rfl, size, by simpa using rel⟩) (fun b u z => by have z' : (none : Option HO) = some u := z; cases z') (fun b z => absurd rfl z) fun z => absurd rfl z
  | none =>
    refine go (upd (fun _ => none) a (.frz { cls := .type "list", data := .seq vs.toArray } (.lst (ns.map V.int)))) (fun b => ?_) (.inl (.inr ⟨_, upd_same⟩)) (fun b u z => ?_) (fun b z => ?_) fun _ => hk
    · by_cases c : b = a
      · subst c
        exact .inr ⟨_, _, upd_same⟩
      · exact .inl (upd_ne c)
    · by_cases c : b = a
      · subst c
        rw [upd_same] at z
        cases z
        exact ⟨ha, by rw [List.length_map]; exact hl, vs, _, rel, ha⟩
      · rw [upd_ne c] at z
        cases z
    · by_cases c : b = a
      · exact c
      · exact absurd (upd_ne c) z
/-- the law's walk, from its promise -/
theorem end_walk {l : PySem.W.OpenLaw} {n k : Nat} {q : Program} {loose : List Str} {XP : (Str → Option Value) → Heap → Prop} {YP : World → Heap → Prop} {d : DefRec} {x : Str}
    (hn : l.most = some n) (hn2 : n ≤ sizeLine) (hdf : d.params.defaults = []) (hr : Room k callerA)
    (F : ∀ (w : World) (mg : Str → Option Value) (fa : Addr) (h : Heap), YP w h → h.Ns mainGlobals mg → mg d.name = some (.ref fa) →
      ∃ (K : PySem.W.Frag) (fd : FuncData) (sp : Sp), K.In h ∧ (∀ (s : Shared) (u : Value), BindsTo s fd ⟨[u], []⟩ [(x, u)]) ∧
        (∀ (H : Hp) (a : Addr) (ns : List Int), ns.length ≤ n → SqL K H a (ns.map V.int) → sp [.ref a] H (fun v _ => v = .bl true) En) ∧
        ∀ base : Heap, K.In base → base.Ns mainGlobals mg → FnG l.prog w K mg base k fa fd [x] sp) :
    PySem.W.WalkO q loose XP YP l.row.toRowW d [] (fun f vs => PySem.call f vs) := by
  refine Att.attach_call hn hdf fun w s₀ s₁ mg mb fa o pm cd doc a vs ns G Y ho hd hcd hmg hobj hints hlen hg => ?_
  obtain ⟨K, fd, sp, kin, hb, hsp, hF⟩ := F w mg fa _ Y G.T.g hmg
  exact end_call kin G.T.g G.T.b G.T.builtins G.T.nolimit hg hobj hints (Nat.le_trans hlen hn2) hr rfl hF hb fun H hS => hsp H a ns hlen hS

/-! ### constants of the module -/
mutual
def rd (K : PySem.W.Frag) : PyData → Value → Bool
  | .none, .none => true
  | .bool b, .bool c => b == c
  | .int i, .int j _ => decide (i = j)
  | .str x, .str y _ => decide (x = y)
  | .tuple ds, .ref a => (match K.lookup a with
    | some ⟨.type c, _, .seq its _, _⟩ => decide (c = "tuple") && decide (its.size ≤ sizeLine) && rdA K ds its.toList
    | _ => false)
  | _, _ => false
def rdA (K : PySem.W.Frag) : List PyData → List Value → Bool
  | [], [] => true
  | d :: ds, u :: us => rd K d u && rdA K ds us
  | _, _ => false
end
def val : PyData → Value → V
  | .none, _ => .non
  | .bool b, _ => .bl b
  | .int i, _ => .int i
  | .str x, _ => .str x
  | _, .ref a => .ref a
  | _, _ => .non
mutual
theorem rd_ok {K : PySem.W.Frag} : ∀ (d : PyData) (u : Value), rd K d u = true → RelV (val d u) u ∧ ∀ F, Dq K F (val d u) d
  | .none, u, h => by
    cases u <;> first | (unfold rd at h; cases h; done) | exact ⟨rfl, fun F => .non⟩
  | .bool b, u, h => by
    cases u <;> first | (unfold rd at h; cases h; done) | skip
    unfold rd at h
    cases eq_of_beq h
    exact ⟨rfl, fun F => .bl b⟩
  | .int i, u, h => by
    cases u <;> first | (unfold rd at h; cases h; done) | skip
    unfold rd at h
    cases of_decide_eq_true h
    exact ⟨⟨_, rfl⟩, fun F => .int i⟩
  | .str x, u, h => by
    cases u <;> first | (unfold rd at h; cases h; done) | skip
    unfold rd at h
    cases of_decide_eq_true h
    exact ⟨⟨_, rfl⟩, fun F => .str x⟩
  | .tuple ds, u, h => by
    cases u <;> first | (unfold rd at h; cases h; done) | skip
    rename_i a
    unfold rd at h
    split at h
    · rename_i c od its n sl q
      simp only [Bool.and_eq_true, decide_eq_true_eq] at h
      obtain ⟨⟨h1, h2⟩, h3⟩ := h
      obtain ⟨vs, r, g⟩ := rdA_ok ds its.toList h3
      exact ⟨rfl, fun F => .tup (.inr ⟨_, its, n, q, congrArg Value.type h1, rfl, h2, r⟩) (g F)⟩
    · cases h
  | .list _, u, h => by cases u <;> (unfold rd at h; cases h)
  | .dict _, u, h => by cases u <;> (unfold rd at h; cases h)
theorem rdA_ok {K : PySem.W.Frag} : ∀ (ds : List PyData) (us : List Value), rdA K ds us = true → ∃ vs, Vals vs us ∧ ∀ F, DqAll K F vs ds
  | [], [], h => ⟨[], .nil, fun F => .nil⟩
  | d :: ds, u :: us, h => by
    unfold rdA at h
    simp only [Bool.and_eq_true] at h
    obtain ⟨r, g⟩ := rd_ok d u h.1
    obtain ⟨vs, r2, g2⟩ := rdA_ok ds us h.2
    exact ⟨_ :: vs, .cons r r2, fun F => .cons (g F) (g2 F)⟩
  | [], _ :: _, h => by unfold rdA at h; cases h
  | _ :: _, [], h => by unfold rdA at h; cases h
end
def rdN (K : PySem.W.Frag) (x : Str) (d : PyData) : Bool := match PySem.W.nsIn K mainGlobals x with
  | some (some u) => rd K d u
  | _ => false
def gcN (K : PySem.W.Frag) : Bool := He.eqO (PySem.W.nsIn K mainGlobals "gcd") (some (some (.builtin "math.gcd")))
def exB (L : Lk) (G : List PyData) (K : PySem.W.Frag) : Bool := decide (L.gl.length = G.length) && (L.gl.zip G).all (fun q => rdN K q.1 q.2) && (!L.gc || gcN K)

/-! ### the head's facts -/
def dArgs : Stmt → Arguments
  | .FunctionDef (args := a) .. => a
  | _ => ⟨[], [], none, [], [], none, []⟩
def dBody : Stmt → List Stmt
  | .FunctionDef (body := b) .. => b
  | _ => []
def dScope : Stmt → Scope
  | .FunctionDef (scope := s) .. => s
  | _ => ⟨.function, [], false, false, []⟩
def dfD (d : Dfn) : He.DefD := ⟨(d.name, none), d.name, d.name, d.params, d.body, d.scope, [], []⟩
def fnD (D : List Dfn) : List He.DefD := D.map dfD
def faD (D : List Dfn) : List He.Fa := D.map (fun d => .glo d.name) ++ bnames.map .free
def alX (L : Lk) (G : List PyData) (D : List Dfn) (K : PySem.W.Frag) : Bool × He.AlD := (exB L G K, He.obsD (faD D) (fnD D) K)
def hookX (n : Nat) (L : Lk) (G : List PyData) (D : List Dfn) : PySem.W.Hook where
  α := Bool × He.AlD
  obs := fun s => alX L G D (He.frG s.heap.get? (He.asD s.heap.get? n))
  val := fun _ => (true, He.valD (fnD D))
  says := fun _ h => ∃ K : PySem.W.Frag, K.In h ∧ exB L G K = true ∧ He.SaysD (faD D) (fnD D) K
  of := fun _ _ e => ⟨_, He.frG_in, congrArg Prod.fst e, congrArg Prod.snd e⟩
  keeps := fun _ _ _ ⟨K, h, c⟩ k => ⟨K, PySem.W.Frag.In.keeps h k, c⟩
def obX (n : Nat) (L : Lk) (G : List PyData) (D : List Dfn) (g : Addr → Option Obj) : Bool × He.AlD := alX L G D (He.frG g (He.asD g n))
theorem obX_eq {n : Nat} {L : Lk} {G : List PyData} {D : List Dfn} {g : Addr → Option Obj} {s : Shared} (h : ∀ a, g a = s.heap.get? a) : obX n L G D g = (hookX n L G D).obs s := by
  rw [show g = s.heap.get? from funext h] <;> rfl
def argsB (d : Dfn) : Prop := ∀ (kV doc pm : Value) (an : Option Addr) (cdv ct : Value) (us : List Value), us.length = d.ps.length → bindArgs (PySem.W.fnOf d.name d.name d.params d.body d.scope .none kV doc pm an cdv ct) ⟨us, []⟩ = pure (d.ps.zip us)
/-- the module as the head's facts tell it -/
theorem md_of {K : PySem.W.Frag} {h : Heap} {mg : Str → Option Value} {L : Lk} {G : List PyData} {D : List Dfn} (X : K.In h) (Gn : h.Ns mainGlobals mg) (e : exB L G K = true) (c : He.SaysD (faD D) (fnD D) K)
    (fnl : L.fn = D.map (·.name)) (oks : D.all (fun d => d.ok L) = true) (bs : ∀ d ∈ D, argsB d) : Md K mg (fun i => (D[i]?).map fun d => He.ga K d.name) L G D where
  fnl := fun i x hx => by
    rw [fnl, List.getElem?_map] at hx
    cases q : D[i]? with
    | none => rw [q] at hx; cases hx
    | some d => rw [q] at hx; cases hx; exact ⟨d, rfl, rfl⟩
  fns := fun i d hd => by
    have hf : (fnD D)[i]? = some (dfD d) := by unfold fnD; rw [List.getElem?_map, hd]; rfl
    have hi : i < D.length := (List.getElem?_eq_some_iff.mp hd).1
    have hg : (faD D)[i]? = some (.glo d.name) := by unfold faD; rw [List.getElem?_append_left (by rw [List.length_map]; exact hi), List.getElem?_map, hd]; rfl
    obtain ⟨fd, F⟩ := c.def_ i hf
    have F' : FunD K d.name d.name d.params d.body d.scope [] [] (He.ga K d.name) fd := F
    exact ⟨He.ga K d.name, fd, by rw [hd]; rfl, He.glo_ok X Gn (c.fact i hg), F', F'.bindsN (bs d (List.mem_of_getElem? hd))⟩
  flt := fun i a ha => by
    cases q : D[i]? with
    | none => rw [q] at ha; cases ha
    | some d => exact (List.getElem?_eq_some_iff.mp q).1
  oks := fun d hd => List.all_eq_true.mp oks d hd
  gls := fun i x hx => by
    unfold exB at e
    simp only [Bool.and_eq_true, decide_eq_true_eq] at e
    obtain ⟨⟨e1, e2⟩, e3⟩ := e
    have hi : i < L.gl.length := (List.getElem?_eq_some_iff.mp hx).1
    have hg : G[i]? = some (G[i]'(by omega)) := List.getElem?_eq_getElem _
    have hz : (L.gl.zip G)[i]? = some (x, G[i]'(by omega)) := by rw [List.getElem?_zip_eq_some]; exact ⟨hx, hg⟩
    have r := List.all_eq_true.mp e2 _ (List.mem_of_getElem? hz)
    unfold rdN at r
    split at r
    · rename_i u q
      obtain ⟨r1, r2⟩ := rd_ok _ u r
      exact ⟨u, _, _, PySem.W.mg_of X Gn q, r1, hg, r2⟩
    · cases r
  blt := fun x hx => by
    obtain ⟨j, hj⟩ := List.mem_iff_getElem?.mp hx
    exact He.free_ok X Gn (c.fact (D.length + j) (by unfold faD; rw [List.getElem?_append_right (by rw [List.length_map]; omega), List.length_map, Nat.add_sub_cancel_left, List.getElem?_map, hj]; rfl))
  gcd := fun hc => by
    unfold exB at e
    simp only [Bool.and_eq_true, decide_eq_true_eq] at e
    have e3 := e.2
    rw [hc] at e3
    exact PySem.W.mg_of X Gn (He.eqO_ok e3)
/-- the law: what the small language answers, at every script -/
theorem law_of {P : Program} {w : World} {K : PySem.W.Frag} {mg : Str → Option Value} {L : Lk} {G : List PyData} {D : List Dfn} {wf k li n : Nat} {d : Dfn} {h : Heap} {x : Str} (X : K.In h) (Gn : h.Ns mainGlobals mg) (M : Md K mg (fun i => (D[i]?).map fun d => He.ga K d.name) L G D)
    (hd : D[li]? = some d) (hps : d.ps = [x]) (bs : argsB d) (hev : ∀ ns : List Int, ns.length ≤ n → ∃ st', call (D.map (·.df)) G wf k li [.known ns] [] = some (.w (.d (.bool true)), st')) :
    ∃ (fd : FuncData) (sp : Sp), (∀ (s : Shared) (u : Value), BindsTo s fd ⟨[u], []⟩ [(x, u)]) ∧
        (∀ (H : Hp) (a : Addr) (ns : List Int), ns.length ≤ n → SqL K H a (ns.map V.int) → sp [.ref a] H (fun v _ => v = .bl true) En) ∧
        ∀ base : Heap, K.In base → base.Ns mainGlobals mg → FnG P w K mg base k (He.ga K d.name) fd [x] sp := by
  obtain ⟨a, fd, h1, h2, F, hb⟩ := M.fns li d hd
  rw [hd] at h1
  cases h1
  refine ⟨fd, spF (gd K (fun i => (D[i]?).map fun d => He.ga K d.name) L G D wf [] k) li, fun s u => ?_, fun H a ns hl hS => ?_, fun base _ _ => ?_⟩
  · have := F.bindsA (ps := d.ps) bs s [u] (by rw [hps]; rfl)
    rw [hps] at this
    exact this
  · obtain ⟨st', e⟩ := hev ns hl
    refine ⟨H, [], [], [.known ns], Same.refl _, ⟨fun n xs z => (by simp at z), fun a z => (by cases z), rfl, List.nodup_nil⟩, .cons (.known hS) .nil, _, st', e, fun v F' ι' H' c => ?_⟩
    have rr := c.rr
    cases rr with
    | w q =>
    cases q with
    | d q =>
    cases q with
    | bl b => rfl
  · have := all_fn (P := P) (w := w) (base := base) (wf := wf) M k li d (He.ga K d.name) fd hd (by rw [hd]; rfl) F
    rw [hps] at this
    exact this
end Xp

/-! E17: running the small language with unknown numbers. -/
namespace Xp
open PySem
def wp {α : Type} (x : Option (α × S)) (Q : α → S → Prop) : Prop := ∃ a s, x = some (a, s) ∧ Q a s
def wc (x : Option (R × List Cell)) (Q : R → List Cell → Prop) : Prop := ∃ r st, x = some (r, st) ∧ Q r st
theorem wp_mono {α : Type} {x : Option (α × S)} {Q Q' : α → S → Prop} (h : wp x Q) (k : ∀ a s, Q a s → Q' a s) : wp x Q' := let ⟨a, s, e, q⟩ := h; ⟨a, s, e, k a s q⟩
theorem wc_mono {x : Option (R × List Cell)} {Q Q' : R → List Cell → Prop} (h : wc x Q) (k : ∀ a s, Q a s → Q' a s) : wc x Q' := let ⟨a, s, e, q⟩ := h; ⟨a, s, e, k a s q⟩
theorem wp_some {α : Type} {a : α} {s : S} {Q : α → S → Prop} : wp (some (a, s)) Q = Q a s := propext ⟨fun ⟨_, _, e, q⟩ => by cases e; exact q, fun q => ⟨a, s, rfl, q⟩⟩
theorem wp_some1 {α : Type} {a : α} {s : S} {Q : α → S → Prop} (h : Q a s) : wp (some (a, s)) Q := ⟨a, s, rfl, h⟩
theorem wp_bd {α β : Type} {x : Option (α × S)} {f : α → S → Option (β × S)} {Q : β → S → Prop} : wp (bd x f) Q = wp x fun a s => wp (f a s) Q := propext ⟨fun ⟨b, s, e, q⟩ => by
    obtain ⟨a, s1, e1, e2⟩ := bd_some e
    exact ⟨a, s1, e1, b, s, e2, q⟩, fun ⟨a, s1, e1, b, s, e2, q⟩ => ⟨b, s, by rw [e1]; exact e2, q⟩⟩
theorem wp_ite {α : Type} {p : Prop} [Decidable p] {x y : Option (α × S)} {Q : α → S → Prop} (h1 : p → wp x Q) (h2 : ¬p → wp y Q) : wp (if p then x else y) Q := by
  by_cases c : p
  · rw [if_pos c]; exact h1 c
  · rw [if_neg c]; exact h2 c
section
variable {cal : Nat → List W → List Cell → Option (R × List Cell)} {G : List PyData} {s s' : S} {N : Nat} {Q : R → S → Prop} {QF : Fl → S → Prop}
def rdF (i : Nat) (s : S) : Option (Option R) → Option (R × S)
  | some (some (.own xs)) => some (.w (.d (.list xs)), ⟨s.sl.set i (some (.w (.d (.list xs)))), s.st⟩)
  | some (some (.w x)) => some (.w x, s)
  | _ => none
def rdB (s : S) : Option (Option R) → Option (R × S)
  | some (some (.own xs)) => some (.bor xs, s)
  | some (some (.w x)) => some (.w x, s)
  | _ => none
def rdM (i : Nat) (s : S) : Option (Option R) → Option (R × S)
  | some (some (.own xs)) => some (.own xs, ⟨s.sl.set i none, s.st⟩)
  | some (some (.w x)) => some (.w x, s)
  | _ => none
theorem w_int {i : Int} (k : Q (.i i) s) : wp (ev cal G (.int i) s) Q := ⟨_, _, rfl, k⟩
theorem w_bl {i : Bool} (k : Q (.b i) s) : wp (ev cal G (.bl i) s) Q := ⟨_, _, rfl, k⟩
theorem w_non (k : Q .n s) : wp (ev cal G .non s) Q := ⟨_, _, rfl, k⟩
theorem w_str {i : Str} (k : Q (.s i) s) : wp (ev cal G (.str i) s) Q := ⟨_, _, rfl, k⟩
theorem w_var {i : Nat} {r : R} (h : rdF i s s.sl[i]? = some (r, s')) (k : Q r s') : wp (ev cal G (.var i) s) Q := ⟨_, _, h, k⟩
theorem w_vb {i : Nat} {r : R} (h : rdB s s.sl[i]? = some (r, s')) (k : Q r s') : wp (ev cal G (.vb i) s) Q := ⟨_, _, h, k⟩
theorem w_vm {i : Nat} {r : R} (h : rdM i s s.sl[i]? = some (r, s')) (k : Q r s') : wp (ev cal G (.vm i) s) Q := ⟨_, _, h, k⟩
theorem w_glb {i : Nat} {x : PyData} (h : G[i]? = some x) (k : Q (.w (.d x)) s) : wp (ev cal G (.glb i) s) Q := ⟨.w (.d x), s, by simp only [ev, h]; rfl, k⟩
theorem w_fnv {i : Nat} (k : Q (.w (.fn i)) s) : wp (ev cal G (.fnv i) s) Q := ⟨_, _, rfl, k⟩
def op1 (f : PyData → Option R) (x : R) (s : S) (Q : R → S → Prop) : Prop := ∃ r, (x.dat s.st).bind f = some r ∧ Q r s
def op2 (f : PyData → PyData → Option R) (x y : R) (s : S) (Q : R → S → Prop) : Prop := ∃ r, ((x.dat s.st).bind fun p => (y.dat s.st).bind fun q => f p q) = some r ∧ Q r s
def opC (o : Co) (x y : R) (s : S) (Q : Bool → S → Prop) : Prop := ∃ c, ((x.dat s.st).bind fun p => (y.dat s.st).bind fun q => cmp2 o p q) = some c ∧ Q c s
def opB (x : R) (s : S) (Q : Bool → S → Prop) : Prop := ∃ c, asB s.st x = some c ∧ Q c s
def opI (x : R) (s : S) (Q : Int → S → Prop) : Prop := ∃ c, asI s.st x = some c ∧ Q c s
def opF (x : R) (s : S) (Q : W → S → Prop) : Prop := ∃ c, x.fz = some c ∧ Q c s
theorem wp_bd2 {α β : Type} {x : Option (α × S)} {f : α → S → Option (β × S)} {Q : β → S → Prop} (h : wp x fun a s => wp (f a s) Q) : wp (bd x f) Q := by rw [wp_bd]; exact h
theorem wp_on {α β : Type} {x : Option α} {s : S} {f : α → S → Option (β × S)} {Q : β → S → Prop} {a : α} (h : x = some a) (k : wp (f a s) Q) : wp (bd (on x s) f) Q := by rw [h]; exact k
theorem wp_eq {α : Type} {x : Option (α × S)} {Q : α → S → Prop} {a : α} {s : S} (h : x = some (a, s)) (k : Q a s) : wp x Q := ⟨a, s, h, k⟩
theorem wp_on1 {α : Type} {x : Option α} {s : S} {Q : α → S → Prop} {a : α} (h : x = some a) (k : Q a s) : wp (on x s) Q := ⟨a, s, by rw [h]; rfl, k⟩
theorem w_scr {a : Ex} (h : wp (ev cal G a s) fun x s1 => ∃ ns, x = .w (.known ns) ∧ Q (.own (ns.map .int)) s1) : wp (ev cal G (.scr a) s) Q := by
  simp only [ev]
  refine wp_bd2 (wp_mono h fun x s1 ⟨ns, e, k⟩ => ?_)
  subst e
  exact ⟨_, _, rfl, k⟩
theorem w_tup {es : Exs} (h : wp (evs cal G es s) fun ws s1 => ∃ ds, asD ws = some ds ∧ Q (.t ds) s1) : wp (ev cal G (.tup es) s) Q := by
  simp only [ev]
  refine wp_bd2 (wp_mono h fun x s1 ⟨ns, e, k⟩ => wp_on1 (by rw [e]; rfl) k)
theorem w_lst {es : Exs} (h : wp (evs cal G es s) fun ws s1 => ∃ ds, asD ws = some ds ∧ Q (.own ds) s1) : wp (ev cal G (.lst es) s) Q := by
  simp only [ev]
  refine wp_bd2 (wp_mono h fun x s1 ⟨ns, e, k⟩ => wp_on1 (by rw [e]; rfl) k)
theorem w_bin {o : Bo} {a b : Ex} (h : wp (ev cal G a s) fun x s1 => wp (ev cal G b s1) fun y s2 => op2 (bin2 o) x y s2 Q) : wp (ev cal G (.bin o a b) s) Q := by
  simp only [ev]
  exact wp_bd2 (wp_mono h fun x s1 h1 => wp_bd2 (wp_mono h1 fun y s2 ⟨r, e, k⟩ => wp_on1 e k))
theorem w_cmp {o : Co} {a b : Ex} (h : wp (ev cal G a s) fun x s1 => wp (ev cal G b s1) fun y s2 => opC o x y s2 fun c s3 => Q (.b c) s3) : wp (ev cal G (.cmp o a b) s) Q := by
  simp only [ev]
  refine wp_bd2 (wp_mono h fun x s1 h1 => wp_bd2 (wp_mono h1 fun y s2 ⟨r, e, k⟩ => wp_on1 (a := .b r) ?_ k))
  cases hx : x.dat s2.st with
  | none => rw [hx] at e; cases e
  | some p =>
    cases hy : y.dat s2.st with
    | none => rw [hx, hy] at e; cases e
    | some q =>
      rw [hx, hy] at e
      have e' : cmp2 o p q = some r := e
      show (cmp2 o p q).map _ = _
      rw [e']
      rfl
theorem w_cmp2 {o o2 : Co} {a b c : Ex} (h : wp (ev cal G a s) fun x s1 => wp (ev cal G b s1) fun y s2 => opC o x y s2 fun k s3 => wp (if k = true then bd (ev cal G c s3) fun z s4 => on ((y.dat s4.st).bind fun p => (z.dat s4.st).bind fun q => (cmp2 o2 p q).map fun c => R.b c) s4 else some (.b false, s3)) Q) : wp (ev cal G (.cmp2 o o2 a b c) s) Q := by
  simp only [ev]
  exact wp_bd2 (wp_mono h fun x s1 h1 => wp_bd2 (wp_mono h1 fun y s2 ⟨r, e, k⟩ => wp_on e k))
theorem w_and {a b : Ex} (h : wp (ev cal G a s) fun x s1 => opB x s1 fun k s2 => wp (if k = true then ev cal G b s2 else some (.b false, s2)) Q) : wp (ev cal G (.and a b) s) Q := by
  simp only [ev]
  exact wp_bd2 (wp_mono h fun x s1 ⟨k, e, h1⟩ => wp_on e h1)
theorem w_or {a b : Ex} (h : wp (ev cal G a s) fun x s1 => opB x s1 fun k s2 => wp (if k = true then some (.b true, s2) else ev cal G b s2) Q) : wp (ev cal G (.or a b) s) Q := by
  simp only [ev]
  exact wp_bd2 (wp_mono h fun x s1 ⟨k, e, h1⟩ => wp_on e h1)
theorem w_not {a : Ex} (h : wp (ev cal G a s) fun x s1 => opB x s1 fun k s2 => Q (.b (!k)) s2) : wp (ev cal G (.not a) s) Q := by
  simp only [ev]
  exact wp_bd2 (wp_mono h fun x s1 ⟨k, e, h1⟩ => wp_on e ⟨_, _, rfl, h1⟩)
theorem w_ite {c a b : Ex} (h : wp (ev cal G c s) fun x s1 => opB x s1 fun k s2 => wp (if k = true then ev cal G a s2 else ev cal G b s2) Q) : wp (ev cal G (.ite c a b) s) Q := by
  simp only [ev]
  exact wp_bd2 (wp_mono h fun x s1 ⟨k, e, h1⟩ => wp_on e h1)
theorem w_cal {f : Nat} {es : Exs} (h : wp (evs cal G es s) fun ws s1 => wc (cal f ws s1.st) fun r st => Q r ⟨s1.sl, st⟩) : wp (ev cal G (.cal f es) s) Q := by
  simp only [ev]
  refine wp_bd2 (wp_mono h fun ws s1 ⟨r, st, e, k⟩ => ⟨r, ⟨s1.sl, st⟩, ?_, k⟩)
  simp only [e]
theorem w_cav {i f : Nat} {es : Exs} (hf : s.sl[i]? = some (some (.w (.fn f)))) (h : wp (evs cal G es s) fun ws s1 => wc (cal f ws s1.st) fun r st => Q r ⟨s1.sl, st⟩) : wp (ev cal G (.cav i es) s) Q := by
  simp only [ev, hf]
  refine wp_bd2 (wp_mono h fun ws s1 ⟨r, st, e, k⟩ => ⟨r, ⟨s1.sl, st⟩, ?_, k⟩)
  simp only [e]
theorem w_u1 {f : U1} {a : Ex} (h : wp (ev cal G a s) fun x s1 => op1 (un1 f) x s1 Q) : wp (ev cal G (.u1 f a) s) Q := by
  simp only [ev]
  exact wp_bd2 (wp_mono h fun x s1 ⟨k, e, h1⟩ => wp_on1 e h1)
theorem w_u2 {f : U2} {a b : Ex} (h : wp (ev cal G a s) fun x s1 => wp (ev cal G b s1) fun y s2 => op2 (un2 f) x y s2 Q) : wp (ev cal G (.u2 f a b) s) Q := by
  simp only [ev]
  exact wp_bd2 (wp_mono h fun x s1 h1 => wp_bd2 (wp_mono h1 fun y s2 ⟨r, e, k⟩ => wp_on1 e k))
theorem w_ix {a b : Ex} (h : wp (ev cal G a s) fun x s1 => wp (ev cal G b s1) fun y s2 => op2 ix2 x y s2 Q) : wp (ev cal G (.ix a b) s) Q := by
  simp only [ev]
  exact wp_bd2 (wp_mono h fun x s1 h1 => wp_bd2 (wp_mono h1 fun y s2 ⟨r, e, k⟩ => wp_on1 e k))
theorem w_sl {a lo hi : Ex} (h : wp (ev cal G a s) fun x s1 => wp (evp cal G lo s1) fun l s2 => wp (evp cal G hi s2) fun h s3 => op1 (sl3 l h) x s3 Q) : wp (ev cal G (.sl a lo hi) s) Q := by
  simp only [ev]
  exact wp_bd2 (wp_mono h fun x s1 h1 => wp_bd2 (wp_mono h1 fun l s2 h2 => wp_bd2 (wp_mono h2 fun r s3 ⟨z, e, k⟩ => wp_on1 e k)))
theorem p_no {Q : Option Int → S → Prop} (k : Q none s) : wp (evp cal G .nopart s) Q := ⟨_, _, rfl, k⟩
theorem p_so {a : Ex} {Q : Option Int → S → Prop} (n : a ≠ .nopart) (h : wp (ev cal G a s) fun x s1 => opI x s1 fun i s2 => Q (some i) s2) : wp (evp cal G a s) Q := by
  rw [evp_ne n]
  exact wp_bd2 (wp_mono h fun x s1 ⟨i, e, k⟩ => wp_on1 (by rw [e]; rfl) k)
theorem es_n {Q : List W → S → Prop} (k : Q [] s) : wp (evs cal G .nil s) Q := ⟨_, _, rfl, k⟩
theorem es_c {e : Ex} {es : Exs} {Q : List W → S → Prop} (h : wp (ev cal G e s) fun x s1 => opF x s1 fun w s1 => wp (evs cal G es s1) fun ws s2 => Q (w :: ws) s2) : wp (evs cal G (.cons e es) s) Q := by
  simp only [evs]
  exact wp_bd2 (wp_mono h fun x s1 ⟨w, e, h1⟩ => wp_on e (wp_bd2 (wp_mono h1 fun ws s2 k => ⟨_, _, rfl, k⟩)))
def turnC (cal : Nat → List W → List Cell → Option (R × List Cell)) (G : List PyData) (own : List Nat) (tg : Tg) (c e : Ex) (x : PyData) (s2 : S) : Option (Option PyData × S) := bd (on (bindT tg x (wipe s2.sl own)) s2) fun l s3 => bd (ev cal G c ⟨l, s3.st⟩) fun k s4 => bd (on (asB s4.st k) s4) fun k s5 =>
        if k = true then bd (ev cal G e s5) fun y s6 => on (match y.fz with | some (.d d) => some (some d) | _ => none) s6 else some (none, s5)
theorem w_lc {own : List Nat} {tg : Tg} {it : It} {c e : Ex} (h : wp (evi cal G it s) fun xs s1 => (noOwn s1.sl own && decide (xs.length ≤ 16777215)) = true ∧ wp (lcL (turnC cal G own tg c e) xs s1) fun r s7 => Q (.own r) ⟨back s7.sl s1.sl own, s7.st⟩) : wp (ev cal G (.lc own tg it c e) s) Q := by
  simp only [ev]
  refine wp_bd2 (wp_mono h fun xs s1 ⟨h1, h2⟩ => ?_)
  simp only [Bool.and_eq_true, decide_eq_true_eq] at h1
  refine wp_on (a := xs) ?_ (wp_bd2 (wp_mono h2 fun r s7 k => ⟨_, _, rfl, k⟩))
  rw [if_pos h1.1]
  exact if_pos h1.2
theorem t_c {own : List Nat} {tg : Tg} {c e : Ex} {x : PyData} {l : List (Option R)} {Q : Option PyData → S → Prop} (hb : bindT tg x (wipe s.sl own) = some l) (h : wp (ev cal G c ⟨l, s.st⟩) fun k s4 => opB k s4 fun k s5 => wp (if k = true then bd (ev cal G e s5) fun y s6 => on (match y.fz with | some (.d d) => some (some d) | _ => none) s6 else some (none, s5)) Q) : wp (turnC cal G own tg c e x s) Q :=
  wp_on hb (wp_bd2 (wp_mono h fun k s4 ⟨b, e, k⟩ => wp_on e k))
theorem x_y {p : Bool} {Q : Prop} (h : p = true) (k : Q) : p = true ∧ Q := ⟨h, k⟩
theorem c_n {f : PyData → S → Option (Option PyData × S)} {Q : List PyData → S → Prop} (k : Q [] s) : wp (lcL f [] s) Q := ⟨_, _, rfl, k⟩
theorem c_c {f : PyData → S → Option (Option PyData × S)} {x : PyData} {xs : List PyData} {Q : List PyData → S → Prop} (h : wp (f x s) fun o s1 => wp (lcL f xs s1) fun r s2 => Q (o.toList ++ r) s2) : wp (lcL f (x :: xs) s) Q := by
  simp only [lcL]
  exact wp_bd2 (wp_mono h fun o s1 h1 => wp_bd2 (wp_mono h1 fun r s2 k => ⟨_, _, rfl, k⟩))
/-- a comprehension: what it makes of each, in their order -/
inductive Rel (P : PyData → Option PyData → Prop) : List PyData → List PyData → Prop
  | nil : Rel P [] []
  | cons {x : PyData} {y : Option PyData} {xs ys : List PyData} : P x y → Rel P xs ys → Rel P (x :: xs) (y.toList ++ ys)
theorem wp_lc {f : PyData → S → Option (Option PyData × S)} (I : S → Prop) (P : PyData → Option PyData → Prop) : ∀ (xs : List PyData) (s : S) (Q : List PyData → S → Prop), I s → (∀ x ∈ xs, ∀ s, I s → wp (f x s) fun o s' => P x o ∧ I s') → (∀ r s, Rel P xs r → I s → Q r s) → wp (lcL f xs s) Q
  | [], s, Q, h, _, k => c_n (k [] s .nil h)
  | x :: xs, s, Q, h, b, k => c_c (wp_mono (b x List.mem_cons_self s h) fun o s1 ⟨p, h1⟩ => wp_lc I P xs s1 _ h1 (fun y hy => b y (List.mem_cons_of_mem _ hy)) fun r s2 q h2 => k _ s2 (.cons p q) h2)
/-! results -/
theorem x_i {α : Type} {x : Option α} {a : α} {Q : α → Prop} (h : x = some a) (k : Q a) : ∃ b, x = some b ∧ Q b := ⟨a, h, k⟩
theorem x_s {x : Option (Fl × S)} {a : S} {Q : S → Prop} (h : x = some (.nx, a)) (k : Q a) : ∃ b, x = some (Fl.nx, b) ∧ Q b := ⟨a, h, k⟩
theorem x_k {x : R} {a : List Int} {Q : List Int → Prop} (h : x = .w (.known a)) (k : Q a) : ∃ b, x = .w (.known b) ∧ Q b := ⟨a, h, k⟩
theorem x_t {w : W} {x : PyData} {l : List (Option R)} {f : PyData → Option (List (Option R))} {Q : List (Option R) → Prop} (h : w = .d x) (h2 : f x = some l) (k : Q l) : ∃ x l, w = .d x ∧ f x = some l ∧ Q l := ⟨x, l, h, h2, k⟩
theorem x_o {r : R} {xs : List PyData} {i n : Nat} {Q : List PyData → Prop} (h : r = .own xs) (h2 : decide (i < n) = true) (k : Q xs) : ∃ xs, r = .own xs ∧ i < n ∧ Q xs := ⟨xs, h, of_decide_eq_true h2, k⟩
theorem x_u {p : Option Unit} {Q : Prop} (h : p = some ()) (k : Q) : p = some () ∧ Q := ⟨h, k⟩
theorem x_r {p : Prop} [Decidable p] {Q : Prop} (h : decide p = true) (k : Q) : p ∧ Q := ⟨of_decide_eq_true h, k⟩
/-! conditions -/
theorem c_dec {α : Type} {p : Prop} [Decidable p] {x y : Option (α × S)} {Q : α → S → Prop} (h1 : p → wp x Q) (h2 : ¬p → wp y Q) : wp (if decide p = true then x else y) Q := by
  by_cases c : p
  · rw [if_pos (decide_eq_true c)]; exact h1 c
  · rw [if_neg (by rw [decide_eq_false c]; decide)]; exact h2 c
theorem c_tr {α : Type} {x y : Option (α × S)} {Q : α → S → Prop} {b : Bool} (e : b = true) (h : wp x Q) : wp (if b = true then x else y) Q := by rw [if_pos e]; exact h
theorem c_fl {α : Type} {x y : Option (α × S)} {Q : α → S → Prop} {b : Bool} (e : b = false) (h : wp y Q) : wp (if b = true then x else y) Q := by rw [if_neg (by rw [e]; decide)]; exact h
theorem c_no {α : Type} {x y : Option (α × S)} {Q : α → S → Prop} {b : Bool} (h1 : b = true → wp x Q) (h2 : b = false → wp y Q) : wp (if b = true then x else y) Q := by
  cases b with
  | true => exact c_tr rfl (h1 rfl)
  | false => exact c_fl rfl (h2 rfl)
/-! operators -/
theorem o1 {f : PyData → Option R} {x r : R} (e : (x.dat s.st).bind f = some r) (k : Q r s) : op1 f x s Q := ⟨r, e, k⟩
theorem o2 {f : PyData → PyData → Option R} {x y r : R} (e : ((x.dat s.st).bind fun p => (y.dat s.st).bind fun q => f p q) = some r) (k : Q r s) : op2 f x y s Q := ⟨r, e, k⟩
theorem oC {o : Co} {x y : R} {c : Bool} {Q : Bool → S → Prop} (e : ((x.dat s.st).bind fun p => (y.dat s.st).bind fun q => cmp2 o p q) = some c) (k : Q c s) : opC o x y s Q := ⟨c, e, k⟩
theorem oB {x : R} {c : Bool} {Q : Bool → S → Prop} (e : asB s.st x = some c) (k : Q c s) : opB x s Q := ⟨c, e, k⟩
theorem oI {x : R} {c : Int} {Q : Int → S → Prop} (e : asI s.st x = some c) (k : Q c s) : opI x s Q := ⟨c, e, k⟩
theorem oF {x : R} {c : W} {Q : W → S → Prop} (e : x.fz = some c) (k : Q c s) : opF x s Q := ⟨c, e, k⟩
theorem o_mul {x y : R} {i j : Int} (hx : x.dat s.st = some (.int i)) (hy : y.dat s.st = some (.int j)) (h : mulOk i j = true) (k : Q (.i (i * j)) s) : op2 (bin2 .mul) x y s Q := ⟨_, by rw [hx, hy]; show (if mulOk i j = true then _ else _) = _; rw [if_pos h], k⟩
theorem o_fdiv {x y : R} {i j : Int} (hx : x.dat s.st = some (.int i)) (hy : y.dat s.st = some (.int j)) (h : divOk j = true) (k : Q (.i (i.fdiv j)) s) : op2 (bin2 .fdiv) x y s Q := ⟨_, by rw [hx, hy]; show (if divOk j = true then _ else _) = _; rw [if_pos h], k⟩
theorem o_mod {x y : R} {i j : Int} (hx : x.dat s.st = some (.int i)) (hy : y.dat s.st = some (.int j)) (h : j ≠ 0) (k : Q (.i (i.fmod j)) s) : op2 (bin2 .mod) x y s Q := ⟨_, by rw [hx, hy]; show (if j ≠ 0 then _ else _) = _; rw [if_pos h], k⟩
theorem o_addL {x y : R} {i j : List PyData} (hx : x.dat s.st = some (.list i)) (hy : y.dat s.st = some (.list j)) (h : i.length + j.length ≤ 16777216) (k : Q (.own (i ++ j)) s) : op2 (bin2 .add) x y s Q := ⟨_, by rw [hx, hy]; show (if _ then _ else _) = _; rw [if_pos h], k⟩
theorem o_ix0 {x y : R} {a : PyData} {r : List PyData} (hx : x.dat s.st = some (.tuple (a :: r))) (hy : y.dat s.st = some (.int 0)) (k : Q (.w (.d a)) s) : op2 ix2 x y s Q := ⟨.w (.d a), by
  rw [hx, hy]
  show (atD (a :: r) 0).map _ = _
  unfold atD L2.atI L2.ixN
  rw [if_pos (by decide), if_pos (by simp)]
  rfl, k⟩
theorem o_ix {x y : R} {a : PyData} {r : List PyData} {i : Int} (hx : x.dat s.st = some (.tuple r)) (hy : y.dat s.st = some (.int i)) (h : atD r i = some a) (k : Q (.w (.d a)) s) : op2 ix2 x y s Q := ⟨.w (.d a), by
  rw [hx, hy]
  show (atD r i).map _ = _
  rw [h]
  rfl, k⟩
theorem o_eqI {x y : R} {i j : Int} {Q : Bool → S → Prop} (hx : x.dat s.st = some (.int i)) (hy : y.dat s.st = some (.int j)) (k : Q (decide (i = j)) s) : opC .eq x y s Q := ⟨_, by
  rw [hx, hy]
  show (if (okEq (.int i) && okEq (.int j)) = true then some (PyData.eqv (.int i) (.int j)) else none) = _
  rw [if_pos (show (okEq (.int i) && okEq (.int j)) = true from rfl)]
  congr 1, k⟩
theorem o_neI {x y : R} {i j : Int} {Q : Bool → S → Prop} (hx : x.dat s.st = some (.int i)) (hy : y.dat s.st = some (.int j)) (k : Q (!decide (i = j)) s) : opC .ne x y s Q := ⟨_, by
  rw [hx, hy]
  show (if (okEq (.int i) && okEq (.int j)) = true then some (!PyData.eqv (.int i) (.int j)) else none) = _
  rw [if_pos (show (okEq (.int i) && okEq (.int j)) = true from rfl)]
  congr 1, k⟩
theorem o_neS {x y : R} {i : Str} {Q : Bool → S → Prop} (hx : x.dat s.st = some (.str i)) (hy : y.dat s.st = some (.str i)) (k : Q false s) : opC .ne x y s Q := ⟨_, by
  rw [hx, hy]
  show some (!decide (i = i)) = some false
  rw [decide_eq_true rfl]
  rfl, k⟩
theorem o_rep {x : R} {p : PyData} (hx : x.dat s.st = some p) (h : showOk p = true) (k : Q (.s p.shown) s) : op1 (un1 .repr) x s Q := ⟨_, by rw [hx]; show (if showOk p = true then _ else _) = _; rw [if_pos h], k⟩
theorem mulOk_l {i j : Int} (h : decide (i.natAbs < 2 ^ 64) = true) : mulOk i j = true := by unfold mulOk; rw [h]; rfl
theorem mulOk_r {i j : Int} (h : decide (j.natAbs < 2 ^ 64) = true) : mulOk i j = true := by unfold mulOk; rw [h]; simp
theorem divOk_l {j : Int} (h : (decide (j ≠ 0) && decide (j.natAbs.log2 < 9000)) = true) : divOk j = true := h
/-! statements -/
def sto (i : Nat) (s1 : S) : R → Option (Fl × S)
  | .bor _ => none
  | r => if i < s1.sl.length then some (.nx, ⟨s1.sl.set i (some r), s1.st⟩) else none
theorem s_asg {i : Nat} {e : Ex} (h : wp (ev cal G e s) fun r s1 => ∃ s2, sto i s1 r = some (.nx, s2) ∧ QF .nx s2) : wp (run cal G N (.asg (.v i) e) s) QF := by
  simp only [run]
  refine wp_bd2 (wp_mono h fun r s1 ⟨s2, e, k⟩ => ⟨.nx, s2, ?_, k⟩)
  rw [← e]
  cases r <;> rfl
def tupD : PyData → PyData
  | .list xs => .tuple xs
  | x => x
theorem s_asgT {t r : Tg} {e : Ex} (h : wp (ev cal G e s) fun r0 s1 => opF r0 s1 fun w s1 => ∃ x l, w = .d x ∧ bindT (.cons t r) (tupD x) s1.sl = some l ∧ QF .nx ⟨l, s1.st⟩) : wp (run cal G N (.asg (.cons t r) e) s) QF := by
  simp only [run]
  refine wp_bd2 (wp_mono h fun r0 s1 ⟨w, e, x, l, e1, e2, k⟩ => wp_on e ?_)
  subst e1
  cases x <;> exact wp_on e2 ⟨_, _, rfl, k⟩
theorem s_asgC {i : Nat} {e : Ex} (h : wp (ev cal G e s) fun r s1 => ∃ xs, r = .own xs ∧ i < s1.sl.length ∧ QF .nx ⟨s1.sl.set i (some (.w (.cell s1.st.length))), s1.st ++ [xs]⟩) : wp (run cal G N (.asgC i e) s) QF := by
  simp only [run]
  refine wp_bd2 (wp_mono h fun r s1 ⟨xs, e, l, k⟩ => ⟨.nx, _, ?_, k⟩)
  subst e
  simp only [if_pos l]
theorem s_par {is : List Nat} {es : Exs} (h : wp (evs cal G es s) fun ws s1 => ∃ l, setAll s1.sl is ws = some l ∧ QF .nx ⟨l, s1.st⟩) : wp (run cal G N (.par is es) s) QF := by
  simp only [run]
  exact wp_bd2 (wp_mono h fun r s1 ⟨l, e, k⟩ => wp_on e ⟨_, _, rfl, k⟩)
theorem s_exp {e : Ex} (h : wp (ev cal G e s) fun _ s1 => QF .nx s1) : wp (run cal G N (.exp e) s) QF := by
  simp only [run]
  exact wp_bd2 (wp_mono h fun r s1 k => ⟨_, _, rfl, k⟩)
def retR (s1 : S) : R → Option (Fl × S)
  | .bor _ => none
  | r => some (.rt r, s1)
theorem s_ret {e : Ex} (h : wp (ev cal G e s) fun r s1 => ∃ y, retR s1 r = some y ∧ QF y.1 y.2) : wp (run cal G N (.ret e) s) QF := by
  simp only [run]
  refine wp_bd2 (wp_mono h fun r s1 ⟨y, e, k⟩ => ⟨y.1, y.2, ?_, k⟩)
  rw [Prod.eta, ← e]
  cases r <;> rfl
theorem s_retN (k : QF (.rt .n) s) : wp (run cal G N .retN s) QF := ⟨_, _, rfl, k⟩
theorem s_ite {c : Ex} {a b : Sts} (h : wp (ev cal G c s) fun x s1 => opB x s1 fun k s1 => wp (if k = true then runs cal G N a s1 else runs cal G N b s1) QF) : wp (run cal G N (.ite c a b) s) QF := by
  simp only [run]
  exact wp_bd2 (wp_mono h fun x s1 ⟨k, e, h1⟩ => wp_on e h1)
def turnF (cal : Nat → List W → List Cell → Option (R × List Cell)) (G : List PyData) (N : Nat) (tg : Tg) (b : Sts) (x : PyData) (s2 : S) : Option (Fl × S) := bd (on (bindT tg x s2.sl) s2) fun l s3 => runs cal G N b ⟨l, s3.st⟩
theorem t_f {tg : Tg} {b : Sts} {x : PyData} {l : List (Option R)} (e : bindT tg x s.sl = some l) (h : wp (runs cal G N b ⟨l, s.st⟩) QF) : wp (turnF cal G N tg b x s) QF := wp_on e h
theorem s_for {tg : Tg} {it : It} {b : Sts} (h : wp (evi cal G it s) fun xs s1 => wp (loopL (turnF cal G N tg b) xs s1) QF) : wp (run cal G N (.for_ tg it b) s) QF := by
  simp only [run]
  exact wp_bd2 h
theorem s_brk (k : QF .bk s) : wp (run cal G N .brk s) QF := ⟨_, _, rfl, k⟩
theorem s_cnt (k : QF .ct s) : wp (run cal G N .cnt s) QF := ⟨_, _, rfl, k⟩
theorem s_pass (k : QF .nx s) : wp (run cal G N .pass s) QF := ⟨_, _, rfl, k⟩
def seqW : W → Option (List PyData)
  | .d (.list xs) => some xs
  | .d (.tuple xs) => some xs
  | _ => none
theorem i_seq {e : Ex} {Q : List PyData → S → Prop} (h : wp (ev cal G e s) fun x s1 => opF x s1 fun w s1 => ∃ xs, seqW w = some xs ∧ Q xs s1) : wp (evi cal G (.seq e) s) Q := by
  simp only [evi]
  refine wp_bd2 (wp_mono h fun x s1 ⟨w, e, xs, e2, k⟩ => wp_on e (wp_on1 ?_ k))
  rw [← e2]
  cases w with
  | d x => cases x <;> rfl
  | _ => rfl
theorem i_rng1 {e : Ex} {Q : List PyData → S → Prop} (h : wp (ev cal G e s) fun x s1 => opI x s1 fun j s1 => (j ≤ 4611686018427387903 ∧ -4611686018427387904 ≤ j) ∧ Q (rngD 0 j.toNat) s1) : wp (evi cal G (.rng1 e) s) Q := by
  simp only [evi]
  exact wp_bd2 (wp_mono h fun x s1 ⟨w, e, b, k⟩ => wp_on1 (by rw [e]; exact if_pos b) k)
theorem i_rng2 {a b : Ex} {Q : List PyData → S → Prop} (h : wp (ev cal G a s) fun x s1 => opI x s1 fun i s1 => wp (ev cal G b s1) fun y s2 => opI y s2 fun j s2 => (j ≤ 4611686018427387903 ∧ -4611686018427387904 ≤ j ∧ i ≤ 4611686018427387903 ∧ -4611686018427387904 ≤ i) ∧ Q (rngD i (j - i).toNat) s2) : wp (evi cal G (.rng2 a b) s) Q := by
  simp only [evi]
  exact wp_bd2 (wp_mono h fun x s1 ⟨w, e, h1⟩ => wp_on e (wp_bd2 (wp_mono h1 fun y s2 ⟨j, e2, b, k⟩ => wp_on1 (by rw [e2]; exact if_pos b) k)))
def wrI (s2 : S) (i : Nat) (j : Int) : W → Option (Option R) → Option (Fl × S)
  | .d x, some (some (.own xs)) => (match L2.ixN xs.length j with
    | some n => some (.nx, ⟨s2.sl.set i (some (.own (xs.set n x))), s2.st⟩)
    | none => none)
  | .d x, some (some (.w (.cell c))) => (match s2.st[c]? with
    | some xs => (match L2.ixN xs.length j with
      | some n => some (.nx, ⟨s2.sl, s2.st.set c (xs.set n x)⟩)
      | none => none)
    | none => none)
  | _, _ => none
def slB : Option (Option R) → Option Unit
  | some (some _) => some ()
  | _ => none
theorem wrI_eq {s2 : S} {i : Nat} {j : Int} {w : W} : (match w with
    | .d x => (match s2.sl[i]? with
      | some (some (.own xs)) => (match L2.ixN xs.length j with
        | some n => some (Fl.nx, (⟨s2.sl.set i (some (.own (xs.set n x))), s2.st⟩ : S))
        | none => none)
      | some (some (.w (.cell c))) => (match s2.st[c]? with
        | some xs => (match L2.ixN xs.length j with
          | some n => some (.nx, ⟨s2.sl, s2.st.set c (xs.set n x)⟩)
          | none => none)
        | none => none)
      | _ => none)
    | _ => none) = wrI s2 i j w s2.sl[i]? := by
  cases w <;> (cases s2.sl[i]? with
    | none => rfl
    | some o =>
      cases o with
      | none => rfl
      | some r => cases r with
        | w y => cases y <;> rfl
        | own => rfl
        | bor => rfl)
theorem s_setv {i : Nat} {k e : Ex} (h : wp (ev cal G e s) fun r s1 => opF r s1 fun w s1 => slB s1.sl[i]? = some () ∧ wp (ev cal G k s1) fun kr s2 => opI kr s2 fun j s2 => ∃ s3, wrI s2 i j w s2.sl[i]? = some (.nx, s3) ∧ QF .nx s3) : wp (run cal G N (.setv i k e) s) QF := by
  simp only [run]
  refine wp_bd2 (wp_mono h fun r s1 ⟨w, e, e1, h1⟩ => wp_on e (wp_on (a := ()) ?_ (wp_bd2 (wp_mono h1 fun kr s2 ⟨j, e2, s3, e3, kk⟩ => wp_on e2 ⟨.nx, s3, ?_, kk⟩))))
  · rw [← e1]
    cases s1.sl[i]? with
    | none => rfl
    | some o => cases o <;> rfl
  · rw [← e3]
    exact wrI_eq
def ownB : Option (Option R) → Option Unit
  | some (some (.own _)) => some ()
  | _ => none
def pshI (s1 : S) (i : Nat) : W → Option (Option R) → Option (Fl × S)
  | .d x, some (some (.own xs)) => if xs.length < 16777216 then some (.nx, ⟨s1.sl.set i (some (.own (xs ++ [x]))), s1.st⟩) else none
  | _, _ => none
theorem s_app {i : Nat} {e : Ex} (h0 : ownB s.sl[i]? = some ()) (h : wp (ev cal G e s) fun r s1 => opF r s1 fun w s1 => ∃ s3, pshI s1 i w s1.sl[i]? = some (.nx, s3) ∧ QF .nx s3) : wp (run cal G N (.app i e) s) QF := by
  simp only [run]
  refine wp_on (a := ()) ?_ (wp_bd2 (wp_mono h fun r s1 ⟨w, e, s3, e3, kk⟩ => wp_on e ⟨.nx, s3, ?_, kk⟩))
  · rw [← h0]
    cases s.sl[i]? with
    | none => rfl
    | some o => cases o with
      | none => rfl
      | some r => cases r <;> rfl
  · rw [← e3]
    cases w <;> (cases s1.sl[i]? with
      | none => rfl
      | some o => cases o with
        | none => rfl
        | some r => cases r <;> rfl)
theorem ss_n (k : QF .nx s) : wp (runs cal G N .nil s) QF := ⟨_, _, rfl, k⟩
def thenS (cal : Nat → List W → List Cell → Option (R × List Cell)) (G : List PyData) (N : Nat) (r : Sts) (QF : Fl → S → Prop) (f : Fl) (s1 : S) : Prop := match f with
  | .nx => wp (runs cal G N r s1) QF
  | f => QF f s1
theorem ss_c {a : St} {r : Sts} (h : wp (run cal G N a s) (thenS cal G N r QF)) : wp (runs cal G N (.cons a r) s) QF := by
  simp only [runs]
  refine wp_bd2 (wp_mono h fun f s1 k => ?_)
  cases f with
  | nx => exact k
  | bk => exact ⟨_, _, rfl, k⟩
  | ct => exact ⟨_, _, rfl, k⟩
  | rt x => exact ⟨_, _, rfl, k⟩
theorem th_nx {r : Sts} (h : wp (runs cal G N r s) QF) : thenS cal G N r QF .nx s := h
theorem th_bk {r : Sts} (h : QF .bk s) : thenS cal G N r QF .bk s := h
theorem th_ct {r : Sts} (h : QF .ct s) : thenS cal G N r QF .ct s := h
theorem th_rt {r : Sts} {x : R} (h : QF (.rt x) s) : thenS cal G N r QF (.rt x) s := h
def nextL (f : PyData → S → Option (Fl × S)) (xs : List PyData) (QF : Fl → S → Prop) (o : Fl) (s1 : S) : Prop := match o with
  | .nx => wp (loopL f xs s1) QF
  | .ct => wp (loopL f xs s1) QF
  | .bk => QF .nx s1
  | .rt r => QF (.rt r) s1
theorem l_n {f : PyData → S → Option (Fl × S)} (k : QF .nx s) : wp (loopL f [] s) QF := ⟨_, _, rfl, k⟩
theorem l_c {f : PyData → S → Option (Fl × S)} {x : PyData} {xs : List PyData} (h : wp (f x s) (nextL f xs QF)) : wp (loopL f (x :: xs) s) QF := by
  simp only [loopL]
  refine wp_bd2 (wp_mono h fun o s1 k => ?_)
  cases o with
  | nx => exact k
  | ct => exact k
  | bk => exact ⟨_, _, rfl, k⟩
  | rt x => exact ⟨_, _, rfl, k⟩
theorem nl_nx {f : PyData → S → Option (Fl × S)} {xs : List PyData} (h : wp (loopL f xs s) QF) : nextL f xs QF .nx s := h
theorem nl_ct {f : PyData → S → Option (Fl × S)} {xs : List PyData} (h : wp (loopL f xs s) QF) : nextL f xs QF .ct s := h
theorem nl_bk {f : PyData → S → Option (Fl × S)} {xs : List PyData} (h : QF .nx s) : nextL f xs QF .bk s := h
theorem nl_rt {f : PyData → S → Option (Fl × S)} {xs : List PyData} {r : R} (h : QF (.rt r) s) : nextL f xs QF (.rt r) s := h
end
/-! calls -/
def fin (Q : R → List Cell → Prop) (fl : Fl) (s : S) : Prop := match fl with
  | .rt r => Q r s.st
  | .nx => Q .n s.st
  | _ => False
theorem fin_rt {Q : R → List Cell → Prop} {r : R} {s : S} : fin Q (.rt r) s = Q r s.st := rfl
theorem fin_nx {Q : R → List Cell → Prop} {s : S} : fin Q .nx s = Q .n s.st := rfl
theorem wc_call {P : List Df} {G : List PyData} {wf k f : Nat} {d : Df} {ws : List W} {st : List Cell} {Q : R → List Cell → Prop} (h : P[f]? = some d) (hl : ws.length = d.np)
    (hw : wp (runs (call P G wf k) G wf d.body ⟨ws.map (fun w => some (.w w)) ++ List.replicate (d.nn - d.np) none, st⟩) (fin Q)) : wc (call P G wf (k + 1) f ws st) Q := by
  obtain ⟨fl, s, e, q⟩ := hw
  cases fl with
  | rt r => exact ⟨r, s.st, by simp only [call, h, if_pos hl, e], q⟩
  | nx => exact ⟨.n, s.st, by simp only [call, h, if_pos hl, e], q⟩
  | bk => exact q.elim
  | ct => exact q.elim
/-- a loop that is never left ahead of its end -/
theorem wp_loop {f : PyData → S → Option (Fl × S)} {Q : Fl → S → Prop} (I : S → Prop) : ∀ (xs : List PyData) (s : S), I s → (∀ x ∈ xs, ∀ s, I s → wp (f x s) fun fl s' => (fl = .nx ∨ fl = .ct) ∧ I s') → (∀ s, I s → Q .nx s) → wp (loopL f xs s) Q
  | [], s, h, _, k => ⟨.nx, s, rfl, k s h⟩
  | x :: xs, s, h, b, k => by
    refine l_c (wp_mono (b x List.mem_cons_self s h) fun fl s' ⟨z, h'⟩ => ?_)
    have go := wp_loop I xs s' h' (fun y hy => b y (List.mem_cons_of_mem _ hy)) k
    rcases z with rfl | rfl
    · exact go
    · exact go
/-! sizes -/
def B (k : Nat) (a : Int) : Prop := a.natAbs < 2 ^ k
theorem B.mono {j k : Nat} {a : Int} (h : B j a) (l : j ≤ k) : B k a := Nat.lt_of_lt_of_le h (Nat.pow_le_pow_right (by decide) l)
theorem B.mul {j k : Nat} {a b : Int} (h : B j a) (l : B k b) : B (j + k) (a * b) := by
  unfold B at *
  rw [Int.natAbs_mul, Nat.pow_add]
  exact Nat.mul_lt_mul'' h l
theorem B.add {j k : Nat} {a b : Int} (h : B j a) (l : B k b) : B (max j k + 1) (a + b) := by
  have h1 := h.mono (Nat.le_max_left j k)
  have h2 := l.mono (Nat.le_max_right j k)
  unfold B at *
  rw [Nat.pow_succ]
  omega
theorem B.neg {j : Nat} {a : Int} (h : B j a) : B j (-a) := by unfold B at *; omega
theorem B.sub {j k : Nat} {a b : Int} (h : B j a) (l : B k b) : B (max j k + 1) (a - b) := by
  rw [Int.sub_eq_add_neg]
  exact h.add l.neg
theorem B.le {j : Nat} {a b : Int} (h : B j a) (l : b.natAbs ≤ a.natAbs) : B j b := Nat.lt_of_le_of_lt l h
theorem B.fdiv {j : Nat} {a b : Int} (h : B j a) (hb : 0 < b) : B (j + 1) (a.fdiv b) := by
  have l1 : (a.fdiv b).natAbs ≤ a.natAbs + 1 := by
    rw [Int.fdiv_eq_ediv_of_nonneg _ (Int.le_of_lt hb)]
    have := Int.natAbs_ediv_le_natAbs a b
    omega
  unfold B at *
  rw [Nat.pow_succ]
  omega
theorem log_of {j : Nat} {a : Int} (h : B j a) : a.natAbs.log2 ≤ j := by
  by_cases c : a.natAbs = 0
  · rw [c]; exact Nat.zero_le _
  · exact Nat.le_of_lt ((Nat.log2_lt c).mpr h)
theorem mulOk_of {j k : Nat} {a b : Int} (h : B j a) (l : B k b) (n : j + k < 1000000) : mulOk a b = true := by
  unfold mulOk
  have := log_of h
  have := log_of l
  simp only [Bool.or_eq_true, decide_eq_true_eq]
  right
  omega
theorem divOk_of {j : Nat} {a : Int} (h : B j a) (n : j < 9000) (z : a ≠ 0) : divOk a = true := by
  unfold divOk
  have := log_of h
  simp only [Bool.and_eq_true, decide_eq_true_eq]
  exact ⟨z, by omega⟩
end Xp

/-! N1: fractions in their lowest terms. -/
namespace Xp
open PySem
theorem o_in2 {s : S} {x y : R} {p a b : Str} {Q : Bool → S → Prop} (hx : x.dat s.st = some (.str p)) (hy : y.dat s.st = some (.tuple [.str a, .str b])) (h : (okEq (.str p) && okEq (.list [.str a, .str b])) = true) (k : Q (decide (a = p) || decide (b = p)) s) : opC .isin x y s Q := ⟨_, by
  rw [hx, hy]
  show (if (okEq (.str p) && okEq (.list [.str a, .str b])) = true then some (List.any [PyData.str a, .str b] fun y => PyData.eqv y (.str p)) else none) = _
  rw [if_pos h]
  congr 1
  simp only [List.any_cons, List.any_nil, PyData.eqv, Bool.or_false]
  rw [Bool.eq_iff_iff]
  simp, k⟩
def lo (t b : Int) : Int × Int := (t / (Int.gcd t b : Int), b / (Int.gcd t b : Int))
theorem gcd_pos {t b : Int} (h : 0 < b) : 0 < (Int.gcd t b : Int) := by
  have := Int.gcd_pos_of_ne_zero_right t (Int.ne_of_gt h)
  omega
theorem lo_t {t b : Int} : (lo t b).1 * (Int.gcd t b : Int) = t := Int.ediv_mul_cancel (Int.gcd_dvd_left t b)
theorem lo_b {t b : Int} : (lo t b).2 * (Int.gcd t b : Int) = b := Int.ediv_mul_cancel (Int.gcd_dvd_right t b)
theorem lo_pos {t b : Int} (h : 0 < b) : 0 < (lo t b).2 := by
  have h1 := gcd_pos (t := t) h
  have h2 := lo_b (t := t) (b := b)
  rw [← h2] at h
  refine Int.lt_of_mul_lt_mul_right (?_ : 0 * (Int.gcd t b : Int) < _ * (Int.gcd t b : Int)) (Int.le_of_lt h1)
  rw [Int.zero_mul]
  exact h
theorem lo_cop {t b : Int} (h : 0 < b) : Int.gcd (lo t b).1 (lo t b).2 = 1 := by
  have h1 : 0 < Int.gcd t b := Int.gcd_pos_of_ne_zero_right t (Int.ne_of_gt h)
  exact Int.gcd_ediv_gcd_ediv_gcd h1
theorem lo_id {t b : Int} (h : Int.gcd t b = 1) : lo t b = (t, b) := by
  unfold lo
  rw [h]
  simp
theorem lo_uniq {t b u c : Int} (hb : 0 < b) (hc : 0 < c) (h : t * c = u * b) : lo t b = lo u c := by
  have p1 := lo_pos (t := t) hb
  have p2 := lo_pos (t := u) hc
  have c1 := lo_cop (t := t) hb
  have c2 := lo_cop (t := u) hc
  have g1 := gcd_pos (t := t) hb
  have g2 := gcd_pos (t := u) hc
  have e : (lo t b).1 * (lo u c).2 = (lo u c).1 * (lo t b).2 := by
    have h1 := lo_t (t := t) (b := b)
    have h2 := lo_b (t := t) (b := b)
    have h3 := lo_t (t := u) (b := c)
    have h4 := lo_b (t := u) (b := c)
    generalize (lo t b).1 = t1 at *
    generalize (lo t b).2 = b1 at *
    generalize (lo u c).1 = u1 at *
    generalize (lo u c).2 = c1 at *
    generalize (Int.gcd t b : Int) = g at *
    generalize (Int.gcd u c : Int) = k at *
    subst h1 h2 h3 h4
    have : (t1 * c1) * (g * k) = (u1 * b1) * (g * k) := by
      have e1 : t1 * c1 * (g * k) = t1 * g * (c1 * k) := by ac_rfl
      have e2 : u1 * b1 * (g * k) = u1 * k * (b1 * g) := by ac_rfl
      rw [e1, e2, h]
    exact Int.eq_of_mul_eq_mul_right (Int.ne_of_gt (Int.mul_pos g1 g2)) this
  generalize hx : lo t b = x at *
  generalize hy : lo u c = y at *
  obtain ⟨t1, b1⟩ := x
  obtain ⟨u1, d1⟩ := y
  simp only at *
  have n1 : b1.natAbs ∣ d1.natAbs := by
    have : b1.natAbs ∣ t1.natAbs * d1.natAbs := by
      rw [← Int.natAbs_mul, e, Int.natAbs_mul]
      exact Nat.dvd_mul_left _ _
    exact (Nat.Coprime.symm c1).dvd_of_dvd_mul_left this
  have n2 : d1.natAbs ∣ b1.natAbs := by
    have : d1.natAbs ∣ u1.natAbs * b1.natAbs := by
      rw [← Int.natAbs_mul, ← e, Int.natAbs_mul]
      exact Nat.dvd_mul_left _ _
    exact (Nat.Coprime.symm c2).dvd_of_dvd_mul_left this
  have n3 := Nat.dvd_antisymm n1 n2
  have e2 : b1 = d1 := by omega
  subst e2
  have e3 : t1 = u1 := Int.eq_of_mul_eq_mul_right (Int.ne_of_gt p1) e
  rw [e3]
theorem lo_cross {t b : Int} : (lo t b).1 * b = t * (lo t b).2 := by
  have h1 := lo_t (t := t) (b := b)
  have h2 := lo_b (t := t) (b := b)
  generalize (lo t b).1 = t1 at *
  generalize (lo t b).2 = b1 at *
  generalize (Int.gcd t b : Int) = g at *
  rw [← h1, ← h2]
  ac_rfl
theorem lo_floor {t b : Int} (h : 0 < b) : (lo t b).1 / (lo t b).2 = t / b := by
  have h1 := lo_t (t := t) (b := b)
  have h2 := lo_b (t := t) (b := b)
  have g1 := gcd_pos (t := t) h
  generalize (lo t b).1 = t1 at *
  generalize (lo t b).2 = b1 at *
  generalize (Int.gcd t b : Int) = g at *
  rw [← h1, ← h2, Int.mul_ediv_mul_of_pos_left _ _ g1]
theorem scale_div {x y c : Int} (hc : 0 < c) : x / y = (x * c) / (y * c) := (Int.mul_ediv_mul_of_pos_left _ _ hc).symm
/-- rounding hangs on the ratio alone -/
theorem round_ratio {a b c d : Int} (hb : 0 < b) (hd : 0 < d) (h : a * d = c * b) : (2 * a + b) / (2 * b) = (2 * c + d) / (2 * d) := by
  rw [scale_div (x := 2 * a + b) (y := 2 * b) hd, scale_div (x := 2 * c + d) (y := 2 * d) hb]
  have e1 : (2 * a + b) * d = (2 * c + d) * b := by
    rw [Int.add_mul, Int.add_mul, Int.mul_assoc, h, Int.mul_assoc, Int.mul_comm b d]
  have e2 : 2 * b * d = 2 * d * b := by ac_rfl
  rw [e1, e2]
theorem div_le {t g : Int} (h : 0 < g) : (t / g).natAbs ≤ t.natAbs := Int.natAbs_ediv_le_natAbs t g
theorem lo_B1 {k : Nat} {t b : Int} (hb : 0 < b) (h : B k t) : B k (lo t b).1 := h.le (div_le (gcd_pos hb))
theorem lo_B2 {k : Nat} {t b : Int} (hb : 0 < b) (h : B k b) : B k (lo t b).2 := h.le (div_le (gcd_pos hb))
end Xp

/-! Sh: what may be shown. -/
namespace Xp
open PySem PyProof.Rows
theorem nat_len {k n : Nat} (hk : 1 ≤ k) (h : n < 2 ^ k) : (Nat.repr n).length ≤ k := by
  have h10 : n < 10 ^ k := Nat.lt_of_lt_of_le h (Nat.pow_le_pow_left (by decide) k)
  have := toDigits_len_pow (b := 10) (by decide) hk h10
  simpa [Nat.repr] using this
theorem int_len {k : Nat} {a : Int} (hk : 1 ≤ k) (h : B k a) : (Str.ofString (toString a)).length ≤ k + 1 := by
  rw [ofString_len]
  unfold B at h
  cases a with
  | ofNat m =>
    have := nat_len hk (show m < 2 ^ k from h)
    show (Nat.repr m).length ≤ _
    omega
  | negSucc m =>
    have := nat_len hk (show m + 1 < 2 ^ k from h)
    show ("-" ++ Nat.repr (m + 1)).length ≤ _
    have h1 : "-".length = 1 := by first | rfl | decide
    rw [String.length_append]
    omega
theorem sh_of {p : PyData} (h1 : p.showable = true) (h2 : p.hasDict = false) (h3 : p.depth ≤ 64) (h4 : p.shown.length ≤ 16777216) : showOk p = true := by
  unfold showOk
  rw [h1, h2, decide_eq_true h3, decide_eq_true h4]
  rfl
theorem shI {a : Int} (h : B 1000 a) : showOk (.int a) = true := by
  have h1 := log_of h
  have h2 := int_len (by decide) h
  refine sh_of (decide_eq_true (by omega)) rfl (by simp only [PyData.depth]; decide) ?_
  show (Str.ofString (toString a)).length ≤ _
  omega
theorem shT {a b : Int} (h : B 1000 a) (l : B 1000 b) : showOk (.tuple [.int a, .int b]) = true := by
  have h1 := log_of h
  have l1 := log_of l
  have h2 := int_len (by decide) h
  have l2 := int_len (by decide) l
  refine sh_of ?_ rfl (by simp only [PyData.depth, PyData.depthAll]; simp) ?_
  · simp only [PyData.showable, PyData.showableAll, Bool.and_eq_true, decide_eq_true_eq]
    exact ⟨by omega, by omega, trivial⟩
  · have j := join_length_add [(Str.ofString (toString a)), (Str.ofString (toString b))] (by simp)
    simp only [piled, List.map_cons, List.map_nil, List.sum_cons, List.sum_nil] at j
    show (tupleText [(Str.ofString (toString a)), (Str.ofString (toString b))]).length ≤ _
    unfold tupleText
    rw [Str.length_append, Str.length_append]
    have c1 : (Str.ofString "(").length = 1 := by first | rfl | decide
    have c2 : (Str.ofString (if ([(Str.ofString (toString a)), (Str.ofString (toString b))].length == 1) = true then ",)" else ")")).length ≤ 2 := by
      rw [if_neg (by simp)]
      have : (Str.ofString ")").length = 1 := by first | rfl | decide
      omega
    omega
/-- what may be shown, with its depth and its length -/
structure Ok (p : PyData) (t L : Nat) : Prop where
  s : p.showable = true
  d : p.hasDict = false
  h : p.depth ≤ t
  l : p.shown.length ≤ L
theorem Ok.ok {p : PyData} {t L : Nat} (o : Ok p t L) (ht : t ≤ 64) (hL : L ≤ 16777216) : showOk p = true := sh_of o.s o.d (Nat.le_trans o.h ht) (Nat.le_trans o.l hL)
theorem Ok.mono {p : PyData} {t L t' L' : Nat} (o : Ok p t L) (ht : t ≤ t') (hL : L ≤ L') : Ok p t' L' := ⟨o.s, o.d, Nat.le_trans o.h ht, Nat.le_trans o.l hL⟩
theorem ok_int {a : Int} (h : B 64 a) : Ok (.int a) 0 65 :=
  ⟨decide_eq_true (by have := log_of h; omega), rfl, by simp only [PyData.depth]; exact Nat.le_refl _, int_len (by decide) h⟩
theorem ok_none : Ok .none 0 4 := ⟨rfl, rfl, by simp only [PyData.depth]; exact Nat.le_refl _, by show (Str.ofString "None").length ≤ 4; first | rfl | decide⟩
theorem all_s : ∀ {xs : List PyData}, (∀ x ∈ xs, x.showable = true) → PyData.showableAll xs = true
  | [], _ => by simp only [PyData.showableAll]
  | x :: xs, h => by
    simp only [PyData.showableAll, Bool.and_eq_true]
    exact ⟨h x List.mem_cons_self, all_s fun y hy => h y (List.mem_cons_of_mem _ hy)⟩
theorem all_d : ∀ {xs : List PyData}, (∀ x ∈ xs, x.hasDict = false) → PyData.hasDictAll xs = false
  | [], _ => by simp only [PyData.hasDictAll]
  | x :: xs, h => by
    simp only [PyData.hasDictAll, Bool.or_eq_false_iff]
    exact ⟨h x List.mem_cons_self, all_d fun y hy => h y (List.mem_cons_of_mem _ hy)⟩
theorem all_h {t : Nat} : ∀ {xs : List PyData}, (∀ x ∈ xs, x.depth ≤ t) → PyData.depthAll xs ≤ t
  | [], _ => by simp only [PyData.depthAll]; exact Nat.zero_le _
  | x :: xs, h => by
    simp only [PyData.depthAll]
    exact Nat.max_le.mpr ⟨h x List.mem_cons_self, all_h fun y hy => h y (List.mem_cons_of_mem _ hy)⟩
theorem all_l {L : Nat} : ∀ {xs : List PyData}, (∀ x ∈ xs, x.shown.length ≤ L) → piled (PyData.shownAll xs) ≤ xs.length * (L + 2) ∧ (PyData.shownAll xs).length = xs.length
  | [], _ => ⟨by simp [PyData.shownAll, piled], by simp [PyData.shownAll]⟩
  | x :: xs, h => by
    obtain ⟨h1, h2⟩ := all_l (xs := xs) fun y hy => h y (List.mem_cons_of_mem _ hy)
    have h3 := h x List.mem_cons_self
    simp only [PyData.shownAll, piled, List.map_cons, List.sum_cons, List.length_cons] at *
    refine ⟨?_, by omega⟩
    have : (xs.length + 1) * (L + 2) = xs.length * (L + 2) + (L + 2) := Nat.succ_mul _ _
    omega
theorem ok_tup {xs : List PyData} {t L n : Nat} (h : ∀ x ∈ xs, Ok x t L) (hn : xs.length ≤ n) : Ok (.tuple xs) (t + 1) (n * (L + 2) + 4) := by
  refine ⟨?_, ?_, ?_, ?_⟩
  · simp only [PyData.showable]
    exact all_s fun x hx => (h x hx).s
  · simp only [PyData.hasDict]
    exact all_d fun x hx => (h x hx).d
  · simp only [PyData.depth]
    have := all_h (t := t) fun x hx => (h x hx).h
    omega
  · obtain ⟨h1, h2⟩ := all_l (L := L) (xs := xs) fun x hx => (h x hx).l
    have h3 : xs.length * (L + 2) ≤ n * (L + 2) := Nat.mul_le_mul_right _ hn
    show (tupleText (PyData.shownAll xs)).length ≤ _
    unfold tupleText
    rw [Str.length_append, Str.length_append]
    have c1 : (Str.ofString "(").length = 1 := by first | rfl | decide
    have c2 : (Str.ofString (if ((PyData.shownAll xs).length == 1) = true then ",)" else ")")).length ≤ 2 := by
      split
      · have : (Str.ofString ",)").length = 2 := by first | rfl | decide
        omega
      · have : (Str.ofString ")").length = 1 := by first | rfl | decide
        omega
    by_cases e : PyData.shownAll xs = []
    · rw [e] at c2 ⊢
      have : ((Str.ofString ", ").join []).length = 0 := by first | rfl | decide
      omega
    · have j := join_length_add _ e
      omega
end Xp

namespace Xp
open PySem PySem.Spec PyProof.Rows L2
def top (i : Nat) : Stmt := PySem.Challenge.pw_exactpaint_k47_whole_paints_shown.main.body.getD i (.Pass ⟨0, 0, 0, 0⟩)
def f_sign_of : Df := ⟨1, 1, .cons (.ret (.bin .sub (.u1 .int (.cmp .gt (.vb 0) (.int 0))) (.u1 .int (.cmp .lt (.vb 0) (.int 0))))) (.nil)⟩
def f_lowest : Df := ⟨2, 3, .cons (.asg (.v 2) (.bin .mul (.u2 .gcd (.vb 0) (.vb 1)) (.cal 0 (.cons (.var 1) (.nil))))) (.cons (.ret (.tup (.cons (.bin .fdiv (.vb 0) (.vb 2)) (.cons (.bin .fdiv (.vb 1) (.vb 2)) (.nil))))) (.nil))⟩
def f_fraction : Df := ⟨2, 2, .cons (.ite (.cmp .eq (.vb 1) (.int 0)) (.cons (.never) (.nil)) (.nil)) (.cons (.ret (.cal 1 (.cons (.var 0) (.cons (.var 1) (.nil))))) (.nil))⟩
def f_plus : Df := ⟨2, 2, .cons (.ret (.cal 1 (.cons (.bin .add (.bin .mul (.ix (.vb 0) (.int 0)) (.ix (.vb 1) (.int 1))) (.bin .mul (.ix (.vb 1) (.int 0)) (.ix (.vb 0) (.int 1)))) (.cons (.bin .mul (.ix (.vb 0) (.int 1)) (.ix (.vb 1) (.int 1))) (.nil))))) (.nil)⟩
def f_minus : Df := ⟨2, 2, .cons (.ret (.cal 1 (.cons (.bin .sub (.bin .mul (.ix (.vb 0) (.int 0)) (.ix (.vb 1) (.int 1))) (.bin .mul (.ix (.vb 1) (.int 0)) (.ix (.vb 0) (.int 1)))) (.cons (.bin .mul (.ix (.vb 0) (.int 1)) (.ix (.vb 1) (.int 1))) (.nil))))) (.nil)⟩
def f_times : Df := ⟨2, 2, .cons (.ret (.cal 1 (.cons (.bin .mul (.ix (.vb 0) (.int 0)) (.ix (.vb 1) (.int 0))) (.cons (.bin .mul (.ix (.vb 0) (.int 1)) (.ix (.vb 1) (.int 1))) (.nil))))) (.nil)⟩
def f_over : Df := ⟨2, 2, .cons (.ret (.cal 2 (.cons (.bin .mul (.ix (.vb 0) (.int 0)) (.ix (.vb 1) (.int 1))) (.cons (.bin .mul (.ix (.vb 0) (.int 1)) (.ix (.vb 1) (.int 0))) (.nil))))) (.nil)⟩
def f_compared : Df := ⟨2, 2, .cons (.ret (.cal 0 (.cons (.bin .sub (.bin .mul (.ix (.vb 0) (.int 0)) (.ix (.vb 1) (.int 1))) (.bin .mul (.ix (.vb 1) (.int 0)) (.ix (.vb 0) (.int 1)))) (.nil)))) (.nil)⟩
def f_floor_of : Df := ⟨1, 1, .cons (.ret (.bin .fdiv (.ix (.vb 0) (.int 0)) (.ix (.vb 0) (.int 1)))) (.nil)⟩
def f_rounded : Df := ⟨1, 1, .cons (.ret (.bin .fdiv (.bin .add (.bin .mul (.int 2) (.ix (.vb 0) (.int 0))) (.ix (.vb 0) (.int 1))) (.bin .mul (.int 2) (.ix (.vb 0) (.int 1))))) (.nil)⟩
def f_whole : Df := ⟨1, 1, .cons (.ret (.tup (.cons (.var 0) (.cons (.int 1) (.nil))))) (.nil)⟩
def f_apart : Df := ⟨2, 2, .cons (.ret (.tup (.cons (.cal 4 (.cons (.ix (.vb 0) (.int 0)) (.cons (.cal 10 (.cons (.ix (.vb 1) (.int 0)) (.nil))) (.nil)))) (.cons (.cal 4 (.cons (.ix (.vb 0) (.int 1)) (.cons (.cal 10 (.cons (.ix (.vb 1) (.int 1)) (.nil))) (.nil)))) (.nil))))) (.nil)⟩
def f_along : Df := ⟨2, 7, .cons (.asg (.cons (.v 3) (.cons (.v 4) (.nil))) (.cal 11 (.cons (.var 1) (.cons (.ix (.vb 0) (.int 1)) (.nil))))) (.cons (.par [5, 6] (.cons (.bin .sub (.ix (.ix (.vb 0) (.int 2)) (.int 0)) (.ix (.ix (.vb 0) (.int 1)) (.int 0))) (.cons (.bin .sub (.ix (.ix (.vb 0) (.int 2)) (.int 1)) (.ix (.ix (.vb 0) (.int 1)) (.int 1))) (.nil)))) (.cons (.asg (.v 2) (.cal 3 (.cons (.cal 5 (.cons (.var 3) (.cons (.cal 10 (.cons (.var 5) (.nil))) (.nil)))) (.cons (.cal 5 (.cons (.var 4) (.cons (.cal 10 (.cons (.var 6) (.nil))) (.nil)))) (.nil))))) (.cons (.ret (.cal 6 (.cons (.var 2) (.cons (.cal 10 (.cons (.bin .add (.bin .mul (.vb 5) (.vb 5)) (.bin .mul (.vb 6) (.vb 6))) (.nil))) (.nil))))) (.nil))))⟩
def f_without_sign : Df := ⟨1, 1, .cons (.ret (.tup (.cons (.u1 .abs (.ix (.vb 0) (.int 0))) (.cons (.ix (.vb 0) (.int 1)) (.nil))))) (.nil)⟩
def f_around : Df := ⟨2, 4, .cons (.asg (.cons (.v 2) (.cons (.v 3) (.nil))) (.cal 11 (.cons (.var 1) (.cons (.ix (.vb 0) (.int 1)) (.nil))))) (.cons (.par [2, 3] (.cons (.cal 13 (.cons (.var 2) (.nil))) (.cons (.cal 13 (.cons (.var 3) (.nil))) (.nil)))) (.cons (.ret (.cal 6 (.cons (.ite (.cmp .lt (.cal 7 (.cons (.var 2) (.cons (.var 3) (.nil)))) (.int 0)) (.var 3) (.var 2)) (.cons (.cal 10 (.cons (.ix (.vb 0) (.int 2)) (.nil))) (.nil))))) (.nil)))⟩
def f_way_at : Df := ⟨2, 2, .cons (.ret (.ite (.cmp .eq (.ix (.vb 0) (.int 0)) (.str "slope")) (.cal 12 (.cons (.var 0) (.cons (.var 1) (.nil)))) (.cal 14 (.cons (.var 0) (.cons (.var 1) (.nil)))))) (.nil)⟩
def f_brought : Df := ⟨2, 3, .cons (.ite (.cmp .eq (.vb 1) (.str "again")) (.cons (.ret (.cal 4 (.cons (.var 0) (.cons (.cal 10 (.cons (.cal 8 (.cons (.var 0) (.nil))) (.nil))) (.nil))))) (.nil)) (.nil)) (.cons (.ite (.cmp .eq (.vb 1) (.str "held")) (.cons (.ret (.cal 17 (.cons (.var 0) (.nil)))) (.nil)) (.nil)) (.cons (.asg (.v 2) (.cal 4 (.cons (.var 0) (.cons (.cal 10 (.cons (.bin .mul (.int 2) (.cal 8 (.cons (.cal 6 (.cons (.var 0) (.cons (.cal 10 (.cons (.int 2) (.nil))) (.nil)))) (.nil)))) (.nil))) (.nil))))) (.cons (.ret (.ite (.cmp .le (.cal 7 (.cons (.var 2) (.cons (.glb 0) (.nil)))) (.int 0)) (.vm 2) (.cal 4 (.cons (.cal 10 (.cons (.int 2) (.nil))) (.cons (.var 2) (.nil)))))) (.nil))))⟩
def f_held : Df := ⟨1, 1, .cons (.ite (.cmp .lt (.ix (.vb 0) (.int 0)) (.int 0)) (.cons (.ret (.cal 10 (.cons (.int 0) (.nil)))) (.nil)) (.nil)) (.cons (.ret (.ite (.cmp .gt (.cal 7 (.cons (.var 0) (.cons (.glb 0) (.nil)))) (.int 0)) (.glb 0) (.vm 0))) (.nil))⟩
def f_ink_by : Df := ⟨3, 3, .cons (.ret (.cal 9 (.cons (.cal 3 (.cons (.cal 10 (.cons (.var 0) (.nil))) (.cons (.cal 5 (.cons (.var 2) (.cons (.cal 10 (.cons (.bin .sub (.vb 1) (.vb 0)) (.nil))) (.nil)))) (.nil)))) (.nil)))) (.nil)⟩
def f_tile_at : Df := ⟨2, 4, .cons (.par [2, 3] (.cons (.cal 10 (.cons (.ix (.vb 0) (.int 1)) (.nil))) (.cons (.ix (.vb 0) (.int 2)) (.nil)))) (.cons (.ret (.tup (.cons (.bin .mod (.cal 8 (.cons (.cal 6 (.cons (.ix (.vb 1) (.int 0)) (.cons (.var 2) (.nil)))) (.nil))) (.u1 .len (.ix (.vb 3) (.int 0)))) (.cons (.bin .mod (.cal 8 (.cons (.cal 6 (.cons (.ix (.vb 1) (.int 1)) (.cons (.var 2) (.nil)))) (.nil))) (.u1 .len (.vb 3))) (.nil))))) (.nil))⟩
def f_paint_at : Df := ⟨2, 7, .cons (.ite (.cmp .eq (.ix (.vb 0) (.int 0)) (.str "plain")) (.cons (.ret (.ix (.vb 0) (.int 1))) (.nil)) (.nil)) (.cons (.ite (.cmp .eq (.ix (.vb 0) (.int 0)) (.str "tiles")) (.cons (.asg (.cons (.v 3) (.cons (.v 4) (.nil))) (.cal 19 (.cons (.var 0) (.cons (.var 1) (.nil))))) (.cons (.ret (.ix (.ix (.ix (.vb 0) (.int 2)) (.vb 4)) (.vb 3))) (.nil))) (.nil)) (.cons (.asg (.v 2) (.cal 16 (.cons (.cal 15 (.cons (.var 0) (.cons (.var 1) (.nil)))) (.cons (.ix (.vb 0) (.int 5)) (.nil))))) (.cons (.ret (.u1 .tuple (.lc [5, 6] (.cons (.v 5) (.cons (.v 6) (.nil))) (.zip (.ix (.vb 0) (.int 3)) (.ix (.vb 0) (.int 4))) (.bl true) (.cal 18 (.cons (.var 5) (.cons (.var 6) (.cons (.var 2) (.nil)))))))) (.nil))))⟩
def f_law_cup : Df := ⟨1, 2, .cons (.asg (.v 1) (.u1 .abs (.ix (.bin .add (.scr (.var 0)) (.lst (.cons (.int 0) (.nil)))) (.int 0)))) (.cons (.ret (.lst (.cons (.ite (.cmp .ge (.vb 1) (.bin .pow (.int 10) (.int 18))) (.bin .fdiv (.vb 1) (.int 67)) (.int 0)) (.cons (.bin .add (.bin .mod (.u1 .int (.bin .add (.bin .mul (.vb 1) (.int 277)) (.int 2609))) (.int 2077503167)) (.int 163)) (.nil))))) (.nil))⟩
def f_law_roll : Df := ⟨2, 4, .cons (.ite (.cmp .gt (.ix (.vb 0) (.int 0)) (.int 0)) (.cons (.asg (.v 3) (.bin .mod (.u1 .int (.ix (.vb 0) (.int 0))) (.vb 1))) (.cons (.setv 0 (.int 0) (.bin .fdiv (.ix (.vb 0) (.int 0)) (.vb 1))) (.cons (.ret (.vm 3)) (.nil)))) (.nil)) (.cons (.setv 0 (.int 1) (.bin .mod (.u1 .int (.bin .add (.bin .mul (.ix (.vb 0) (.int 1)) (.int 31051)) (.int 7993))) (.int 2147483543))) (.cons (.asg (.v 2) (.bin .mod (.u1 .int (.bin .mul (.ix (.vb 0) (.int 1)) (.bin .add (.ix (.vb 0) (.int 1)) (.int 229)))) (.int 2147483587))) (.cons (.ret (.bin .mod (.u1 .int (.bin .fdiv (.vb 2) (.int 821))) (.vb 1))) (.nil))))⟩
def f_law_some : Df := ⟨2, 2, .cons (.ret (.ix (.vb 1) (.cal 22 (.cons (.var 0) (.cons (.u1 .len (.vb 1)) (.nil)))))) (.nil)⟩
def f_law_inks : Df := ⟨1, 2, .cons (.ret (.u1 .tuple (.lc [1] (.v 1) (.rng1 (.int 3)) (.bl true) (.cal 23 (.cons (.var 0) (.cons (.lst (.cons (.int 0) (.cons (.int 100) (.cons (.int 50) (.cons (.int 1) (.cons (.int 99) (.cons (.cal 22 (.cons (.var 0) (.cons (.int 101) (.nil)))) (.nil)))))))) (.nil))))))) (.nil)⟩
def f_law_point : Df := ⟨2, 3, .cons (.ret (.u1 .tuple (.lc [2] (.v 2) (.rng1 (.int 2)) (.bl true) (.cal 23 (.cons (.var 0) (.cons (.lst (.cons (.int 0) (.cons (.int 1) (.cons (.u1 .neg (.int 1)) (.cons (.var 1) (.cons (.u1 .neg (.vb 1)) (.cons (.bin .sub (.cal 22 (.cons (.var 0) (.cons (.bin .add (.bin .mul (.int 2) (.vb 1)) (.int 1)) (.nil)))) (.vb 1)) (.cons (.bin .sub (.cal 22 (.cons (.var 0) (.cons (.int 9) (.nil)))) (.int 4)) (.nil))))))))) (.nil))))))) (.nil)⟩
def f_law_row : Df := ⟨2, 3, .cons (.ret (.u1 .tuple (.lc [2] (.v 2) (.rng1 (.vb 1)) (.bl true) (.cal 23 (.cons (.var 0) (.cons (.lst (.cons (.non) (.cons (.cal 24 (.cons (.var 0) (.nil))) (.cons (.cal 24 (.cons (.var 0) (.nil))) (.nil))))) (.nil))))))) (.nil)⟩
def f_law_paint : Df := ⟨2, 9, .cons (.asg (.v 2) (.cal 23 (.cons (.var 0) (.cons (.var 1) (.nil))))) (.cons (.ite (.cmp .eq (.vb 2) (.str "plain")) (.cons (.ret (.tup (.cons (.var 2) (.cons (.cal 24 (.cons (.var 0) (.nil))) (.nil))))) (.nil)) (.nil)) (.cons (.ite (.cmp .eq (.vb 2) (.str "tiles")) (.cons (.asg (.v 4) (.bin .add (.int 1) (.cal 22 (.cons (.var 0) (.cons (.int 4) (.nil)))))) (.cons (.asg (.v 5) (.lc [8] (.v 8) (.rng1 (.bin .add (.int 1) (.cal 22 (.cons (.var 0) (.cons (.int 4) (.nil)))))) (.bl true) (.cal 26 (.cons (.var 0) (.cons (.var 4) (.nil)))))) (.cons (.ret (.tup (.cons (.var 2) (.cons (.cal 23 (.cons (.var 0) (.cons (.lst (.cons (.int 1) (.cons (.int 2) (.cons (.int 3) (.cons (.int 99) (.cons (.bin .add (.int 1) (.cal 22 (.cons (.var 0) (.cons (.int 99) (.nil))))) (.nil))))))) (.nil)))) (.cons (.u1 .tuple (.vb 5)) (.nil)))))) (.nil)))) (.nil)) (.cons (.par [6, 7] (.cons (.cal 25 (.cons (.var 0) (.cons (.int 200) (.nil)))) (.cons (.cal 23 (.cons (.var 0) (.cons (.lst (.cons (.str "held") (.cons (.str "again") (.cons (.str "back") (.nil))))) (.nil)))) (.nil)))) (.cons (.ite (.cmp .eq (.vb 2) (.str "rings")) (.cons (.ret (.tup (.cons (.var 2) (.cons (.var 6) (.cons (.cal 23 (.cons (.var 0) (.cons (.lst (.cons (.int 1) (.cons (.int 2) (.cons (.int 4) (.cons (.int 200) (.cons (.bin .add (.int 1) (.cal 22 (.cons (.var 0) (.cons (.int 200) (.nil))))) (.nil))))))) (.nil)))) (.cons (.cal 24 (.cons (.var 0) (.nil))) (.cons (.cal 24 (.cons (.var 0) (.nil))) (.cons (.var 7) (.nil))))))))) (.nil)) (.nil)) (.cons (.asg (.v 3) (.cal 25 (.cons (.var 0) (.cons (.int 200) (.nil))))) (.cons (.asg (.v 3) (.ite (.cmp .ne (.vb 3) (.vb 6)) (.var 3) (.tup (.cons (.ite (.cmp .gt (.ix (.vb 6) (.int 0)) (.int 0)) (.bin .sub (.ix (.vb 6) (.int 0)) (.int 1)) (.bin .add (.ix (.vb 6) (.int 0)) (.int 1))) (.cons (.ix (.vb 6) (.int 1)) (.nil)))))) (.cons (.ret (.tup (.cons (.var 2) (.cons (.var 6) (.cons (.var 3) (.cons (.cal 24 (.cons (.var 0) (.nil))) (.cons (.cal 24 (.cons (.var 0) (.nil))) (.cons (.var 7) (.nil))))))))) (.nil))))))))⟩
def f_law_lowest : Df := ⟨2, 5, .cons (.par [3, 4] (.cons (.u1 .abs (.vb 0)) (.cons (.var 1) (.nil)))) (.cons (.for_ (.v 2) (.rng1 (.int 400)) (.cons (.ite (.cmp .eq (.vb 4) (.int 0)) (.cons (.brk) (.nil)) (.nil)) (.cons (.par [3, 4] (.cons (.var 4) (.cons (.bin .sub (.vb 3) (.bin .mul (.bin .fdiv (.vb 3) (.vb 4)) (.vb 4))) (.nil)))) (.nil)))) (.cons (.ret (.tup (.cons (.bin .fdiv (.vb 0) (.vb 3)) (.cons (.bin .fdiv (.vb 1) (.vb 3)) (.nil))))) (.nil)))⟩
def f_law_number : Df := ⟨1, 3, .cons (.ite (.cmp .eq (.cal 22 (.cons (.var 0) (.cons (.int 9) (.nil)))) (.int 0)) (.cons (.asg (.v 2) (.bin .add (.bin .mul (.bin .sub (.cal 22 (.cons (.var 0) (.cons (.bin .pow (.int 10) (.int 6)) (.nil)))) (.int 500000)) (.cal 23 (.cons (.var 0) (.cons (.lst (.cons (.int 1) (.cons (.int 1000) (.cons (.bin .pow (.int 10) (.int 9)) (.cons (.bin .pow (.int 10) (.int 17)) (.nil)))))) (.nil))))) (.cal 22 (.cons (.var 0) (.cons (.int 1000) (.nil)))))) (.cons (.ret (.cal 28 (.cons (.var 2) (.cons (.bin .add (.int 1) (.bin .mul (.cal 22 (.cons (.var 0) (.cons (.bin .pow (.int 10) (.int 6)) (.nil)))) (.cal 23 (.cons (.var 0) (.cons (.lst (.cons (.int 1) (.cons (.bin .pow (.int 10) (.int 6)) (.cons (.bin .pow (.int 10) (.int 17)) (.nil))))) (.nil)))))) (.nil))))) (.nil))) (.nil)) (.cons (.asg (.v 1) (.cal 23 (.cons (.var 0) (.cons (.lst (.cons (.int 1) (.cons (.int 1) (.cons (.int 2) (.cons (.int 3) (.cons (.int 16) (.cons (.bin .add (.int 1) (.cal 22 (.cons (.var 0) (.cons (.int 100) (.nil))))) (.cons (.bin .add (.int 1) (.cal 22 (.cons (.var 0) (.cons (.bin .pow (.int 10) (.int 6)) (.nil))))) (.nil))))))))) (.nil))))) (.cons (.ret (.cal 28 (.cons (.ite (.cmp .gt (.cal 22 (.cons (.var 0) (.cons (.int 40) (.nil)))) (.int 0)) (.bin .add (.bin .mul (.bin .sub (.cal 22 (.cons (.var 0) (.cons (.int 800) (.nil)))) (.int 400)) (.vb 1)) (.cal 22 (.cons (.var 0) (.cons (.var 1) (.nil))))) (.bin .mul (.int 400) (.vb 1))) (.cons (.var 1) (.nil))))) (.nil)))⟩
def f_law_place : Df := ⟨1, 1, .cons (.ret (.tup (.cons (.cal 29 (.cons (.var 0) (.nil))) (.cons (.cal 29 (.cons (.var 0) (.nil))) (.nil))))) (.nil)⟩
def f_law_near : Df := ⟨2, 5, .cons (.ite (.cmp .eq (.ix (.vb 1) (.int 0)) (.str "plain")) (.cons (.ret (.cal 30 (.cons (.var 0) (.nil)))) (.nil)) (.nil)) (.cons (.asg (.v 2) (.ite (.cmp .eq (.ix (.vb 1) (.int 0)) (.str "tiles")) (.tup (.cons (.int 0) (.cons (.int 0) (.nil)))) (.ix (.vb 1) (.int 1)))) (.cons (.asg (.v 3) (.ite (.cmp .eq (.ix (.vb 1) (.int 0)) (.str "tiles")) (.ix (.vb 1) (.int 1)) (.ix (.vb 1) (.int 2)))) (.cons (.ite (.cmp .eq (.ix (.vb 1) (.int 0)) (.str "slope")) (.cons (.asg (.v 3) (.bin .add (.u1 .abs (.bin .sub (.ix (.ix (.vb 1) (.int 2)) (.int 0)) (.ix (.ix (.vb 1) (.int 1)) (.int 0)))) (.u1 .abs (.bin .sub (.ix (.ix (.vb 1) (.int 2)) (.int 1)) (.ix (.ix (.vb 1) (.int 1)) (.int 1)))))) (.nil)) (.nil)) (.cons (.ret (.u1 .tuple (.lc [4] (.v 4) (.rng1 (.int 2)) (.bl true) (.cal 28 (.cons (.bin .add (.bin .add (.bin .mul (.int 2) (.ix (.vb 2) (.vb 4))) (.bin .mul (.vb 3) (.bin .sub (.cal 22 (.cons (.var 0) (.cons (.int 13) (.nil)))) (.int 6)))) (.cal 23 (.cons (.var 0) (.cons (.lst (.cons (.int 0) (.cons (.int 0) (.cons (.int 1) (.cons (.u1 .neg (.int 1)) (.nil)))))) (.nil))))) (.cons (.int 2) (.nil))))))) (.nil)))))⟩
def f_law_way : Df := ⟨2, 7, .cons (.asg (.v 2) (.bin .mul (.ix (.ix (.vb 1) (.int 0)) (.int 1)) (.ix (.ix (.vb 1) (.int 1)) (.int 1)))) (.cons (.asg (.v 3) (.bin .sub (.bin .mul (.ix (.ix (.vb 1) (.int 0)) (.int 0)) (.ix (.ix (.vb 1) (.int 1)) (.int 1))) (.bin .mul (.ix (.ix (.vb 0) (.int 1)) (.int 0)) (.vb 2)))) (.cons (.asg (.v 4) (.bin .sub (.bin .mul (.ix (.ix (.vb 1) (.int 1)) (.int 0)) (.ix (.ix (.vb 1) (.int 0)) (.int 1))) (.bin .mul (.ix (.ix (.vb 0) (.int 1)) (.int 1)) (.vb 2)))) (.cons (.ite (.cmp .eq (.ix (.vb 0) (.int 0)) (.str "rings")) (.cons (.ret (.tup (.cons (.u2 .max (.u1 .abs (.vb 3)) (.u1 .abs (.vb 4))) (.cons (.bin .mul (.vb 2) (.ix (.vb 0) (.int 2))) (.nil))))) (.nil)) (.nil)) (.cons (.par [5, 6] (.cons (.bin .sub (.ix (.ix (.vb 0) (.int 2)) (.int 0)) (.ix (.ix (.vb 0) (.int 1)) (.int 0))) (.cons (.bin .sub (.ix (.ix (.vb 0) (.int 2)) (.int 1)) (.ix (.ix (.vb 0) (.int 1)) (.int 1))) (.nil)))) (.cons (.ret (.tup (.cons (.bin .add (.bin .mul (.vb 3) (.vb 5)) (.bin .mul (.vb 4) (.vb 6))) (.cons (.bin .mul (.vb 2) (.bin .add (.bin .mul (.vb 5) (.vb 5)) (.bin .mul (.vb 6) (.vb 6)))) (.nil))))) (.nil))))))⟩
def f_law_brought : Df := ⟨2, 5, .cons (.asg (.cons (.v 3) (.cons (.v 4) (.nil))) (.var 0)) (.cons (.ite (.cmp .eq (.vb 1) (.str "held")) (.cons (.ret (.tup (.cons (.u2 .min (.vb 4) (.u2 .max (.int 0) (.vb 3))) (.cons (.var 4) (.nil))))) (.nil)) (.nil)) (.cons (.ite (.cmp .eq (.vb 1) (.str "again")) (.cons (.ret (.tup (.cons (.bin .sub (.vb 3) (.bin .mul (.bin .fdiv (.vb 3) (.vb 4)) (.vb 4))) (.cons (.var 4) (.nil))))) (.nil)) (.nil)) (.cons (.asg (.v 2) (.bin .sub (.vb 3) (.bin .mul (.bin .fdiv (.vb 3) (.bin .mul (.int 2) (.vb 4))) (.bin .mul (.int 2) (.vb 4))))) (.cons (.ret (.tup (.cons (.ite (.cmp .le (.vb 2) (.vb 4)) (.var 2) (.bin .sub (.bin .mul (.int 2) (.vb 4)) (.vb 2))) (.cons (.var 4) (.nil))))) (.nil)))))⟩
def f_law_ink : Df := ⟨3, 3, .cons (.ret (.bin .fdiv (.bin .add (.bin .mul (.int 2) (.bin .add (.bin .mul (.vb 0) (.ix (.vb 2) (.int 1))) (.bin .mul (.bin .sub (.vb 1) (.vb 0)) (.ix (.vb 2) (.int 0))))) (.ix (.vb 2) (.int 1))) (.bin .mul (.int 2) (.ix (.vb 2) (.int 1))))) (.nil)⟩
def f_law_shown : Df := ⟨2, 7, .cons (.ite (.cmp .eq (.ix (.vb 0) (.int 0)) (.str "plain")) (.cons (.ret (.ix (.vb 0) (.int 1))) (.nil)) (.nil)) (.cons (.ite (.cmp .eq (.ix (.vb 0) (.int 0)) (.str "tiles")) (.cons (.asg (.v 3) (.ix (.vb 0) (.int 2))) (.cons (.par [4, 5] (.cons (.bin .fdiv (.ix (.ix (.vb 1) (.int 0)) (.int 0)) (.bin .mul (.ix (.ix (.vb 1) (.int 0)) (.int 1)) (.ix (.vb 0) (.int 1)))) (.cons (.bin .fdiv (.ix (.ix (.vb 1) (.int 1)) (.int 0)) (.bin .mul (.ix (.ix (.vb 1) (.int 1)) (.int 1)) (.ix (.vb 0) (.int 1)))) (.nil)))) (.cons (.ret (.ix (.ix (.vb 3) (.bin .sub (.vb 5) (.bin .mul (.bin .fdiv (.vb 5) (.u1 .len (.vb 3))) (.u1 .len (.vb 3))))) (.bin .sub (.vb 4) (.bin .mul (.bin .fdiv (.vb 4) (.u1 .len (.ix (.vb 3) (.int 0)))) (.u1 .len (.ix (.vb 3) (.int 0))))))) (.nil)))) (.nil)) (.cons (.asg (.v 2) (.cal 33 (.cons (.cal 32 (.cons (.var 0) (.cons (.var 1) (.nil)))) (.cons (.ix (.vb 0) (.int 5)) (.nil))))) (.cons (.ret (.u1 .tuple (.lc [6] (.v 6) (.rng1 (.int 3)) (.bl true) (.cal 34 (.cons (.ix (.ix (.vb 0) (.int 3)) (.vb 6)) (.cons (.ix (.ix (.vb 0) (.int 4)) (.vb 6)) (.cons (.var 2) (.nil)))))))) (.nil))))⟩
def f_law : Df := ⟨1, 10, .cons (.asgC 1 (.cal 21 (.cons (.var 0) (.nil)))) (.cons (.for_ (.v 2) (.rng1 (.int 6)) (.cons (.asg (.v 3) (.cal 27 (.cons (.var 1) (.cons (.lst (.cons (.str "plain") (.cons (.str "slope") (.cons (.str "slope") (.cons (.str "rings") (.cons (.str "rings") (.cons (.str "tiles") (.nil)))))))) (.nil))))) (.cons (.asg (.v 4) (.u1 .repr (.vb 3))) (.cons (.for_ (.v 5) (.rng1 (.int 5)) (.cons (.asg (.v 6) (.cal 23 (.cons (.var 1) (.cons (.lst (.cons (.cal 30 (.cons (.var 1) (.nil))) (.cons (.cal 31 (.cons (.var 1) (.cons (.var 3) (.nil)))) (.nil)))) (.nil))))) (.cons (.par [7, 8] (.cons (.cal 35 (.cons (.var 3) (.cons (.var 6) (.nil)))) (.cons (.cal 20 (.cons (.var 3) (.cons (.var 6) (.nil)))) (.nil)))) (.cons (.ite (.or (.cmp .ne (.u1 .repr (.vb 8)) (.u1 .repr (.vb 7))) (.or (.cmp .ne (.u1 .repr (.cal 20 (.cons (.var 3) (.cons (.var 6) (.nil))))) (.u1 .repr (.vb 7))) (.cmp .ne (.u1 .repr (.vb 3)) (.vb 4)))) (.cons (.ret (.bl false)) (.nil)) (.nil)) (.cons (.ite (.cmp .isin (.ix (.vb 3) (.int 0)) (.tup (.cons (.str "slope") (.cons (.str "rings") (.nil))))) (.cons (.for_ (.v 9) (.rng1 (.int 3)) (.cons (.ite (.not (.cmp2 .le .le (.u2 .min (.ix (.ix (.vb 3) (.int 3)) (.vb 9)) (.ix (.ix (.vb 3) (.int 4)) (.vb 9))) (.ix (.vb 8) (.vb 9)) (.u2 .max (.ix (.ix (.vb 3) (.int 3)) (.vb 9)) (.ix (.ix (.vb 3) (.int 4)) (.vb 9))))) (.cons (.ret (.bl false)) (.nil)) (.nil)) (.nil))) (.nil)) (.nil)) (.nil)))))) (.nil))))) (.cons (.ret (.bl true)) (.nil)))⟩
def Ds : List Dfn := [⟨"sign_of", ["number"], ["number"], dArgs (top 5), dBody (top 5), dScope (top 5), f_sign_of⟩,
  ⟨"lowest", ["top", "bottom"], ["top", "bottom", "common"], dArgs (top 8), dBody (top 8), dScope (top 8), f_lowest⟩,
  ⟨"fraction", ["top", "bottom"], ["top", "bottom"], dArgs (top 9), dBody (top 9), dScope (top 9), f_fraction⟩,
  ⟨"plus", ["one", "other"], ["one", "other"], dArgs (top 10), dBody (top 10), dScope (top 10), f_plus⟩,
  ⟨"minus", ["one", "other"], ["one", "other"], dArgs (top 11), dBody (top 11), dScope (top 11), f_minus⟩,
  ⟨"times", ["one", "other"], ["one", "other"], dArgs (top 12), dBody (top 12), dScope (top 12), f_times⟩,
  ⟨"over", ["one", "other"], ["one", "other"], dArgs (top 13), dBody (top 13), dScope (top 13), f_over⟩,
  ⟨"compared", ["one", "other"], ["one", "other"], dArgs (top 14), dBody (top 14), dScope (top 14), f_compared⟩,
  ⟨"floor_of", ["number"], ["number"], dArgs (top 15), dBody (top 15), dScope (top 15), f_floor_of⟩,
  ⟨"rounded", ["number"], ["number"], dArgs (top 16), dBody (top 16), dScope (top 16), f_rounded⟩,
  ⟨"whole", ["number"], ["number"], dArgs (top 18), dBody (top 18), dScope (top 18), f_whole⟩,
  ⟨"apart", ["place", "point"], ["place", "point"], dArgs (top 19), dBody (top 19), dScope (top 19), f_apart⟩,
  ⟨"along", ["paint", "place"], ["paint", "place", "sum_of", "right", "down", "over_x", "over_y"], dArgs (top 20), dBody (top 20), dScope (top 20), f_along⟩,
  ⟨"without_sign", ["number"], ["number"], dArgs (top 21), dBody (top 21), dScope (top 21), f_without_sign⟩,
  ⟨"around", ["paint", "place"], ["paint", "place", "right", "down"], dArgs (top 22), dBody (top 22), dScope (top 22), f_around⟩,
  ⟨"way_at", ["paint", "place"], ["paint", "place"], dArgs (top 23), dBody (top 23), dScope (top 23), f_way_at⟩,
  ⟨"brought", ["way", "edge"], ["way", "edge", "rest"], dArgs (top 24), dBody (top 24), dScope (top 24), f_brought⟩,
  ⟨"held", ["way"], ["way"], dArgs (top 25), dBody (top 25), dScope (top 25), f_held⟩,
  ⟨"ink_by", ["one", "other", "way"], ["one", "other", "way"], dArgs (top 26), dBody (top 26), dScope (top 26), f_ink_by⟩,
  ⟨"tile_at", ["paint", "place"], ["paint", "place", "size", "rows"], dArgs (top 27), dBody (top 27), dScope (top 27), f_tile_at⟩,
  ⟨"paint_at", ["paint", "place"], ["paint", "place", "way", "column", "row", "one", "other"], dArgs (top 28), dBody (top 28), dScope (top 28), f_paint_at⟩,
  ⟨"_law_cup", ["script"], ["script", "cell"], dArgs (top 30), dBody (top 30), dScope (top 30), f_law_cup⟩,
  ⟨"_law_roll", ["cup", "many"], ["cup", "many", "deep", "found"], dArgs (top 31), dBody (top 31), dScope (top 31), f_law_roll⟩,
  ⟨"_law_some", ["cup", "things"], ["cup", "things"], dArgs (top 32), dBody (top 32), dScope (top 32), f_law_some⟩,
  ⟨"_law_inks", ["cup"], ["cup", "ink"], dArgs (top 33), dBody (top 33), dScope (top 33), f_law_inks⟩,
  ⟨"_law_point", ["cup", "most"], ["cup", "most", "axis"], dArgs (top 34), dBody (top 34), dScope (top 34), f_law_point⟩,
  ⟨"_law_row", ["cup", "many"], ["cup", "many", "column"], dArgs (top 35), dBody (top 35), dScope (top 35), f_law_row⟩,
  ⟨"_law_paint", ["cup", "sorts"], ["cup", "sorts", "sort", "q", "many", "rows", "p", "edge", "row"], dArgs (top 36), dBody (top 36), dScope (top 36), f_law_paint⟩,
  ⟨"_law_lowest", ["top", "bottom"], ["top", "bottom", "turn", "one", "other"], dArgs (top 37), dBody (top 37), dScope (top 37), f_law_lowest⟩,
  ⟨"_law_number", ["cup"], ["cup", "bottom", "top"], dArgs (top 38), dBody (top 38), dScope (top 38), f_law_number⟩,
  ⟨"_law_place", ["cup"], ["cup"], dArgs (top 39), dBody (top 39), dScope (top 39), f_law_place⟩,
  ⟨"_law_near", ["cup", "paint"], ["cup", "paint", "by", "step", "axis"], dArgs (top 40), dBody (top 40), dScope (top 40), f_law_near⟩,
  ⟨"_law_way", ["paint", "place"], ["paint", "place", "bottom", "right", "down", "x", "y"], dArgs (top 41), dBody (top 41), dScope (top 41), f_law_way⟩,
  ⟨"_law_brought", ["way", "edge"], ["way", "edge", "rest", "top", "bottom"], dArgs (top 42), dBody (top 42), dScope (top 42), f_law_brought⟩,
  ⟨"_law_ink", ["one", "other", "way"], ["one", "other", "way"], dArgs (top 43), dBody (top 43), dScope (top 43), f_law_ink⟩,
  ⟨"_law_shown", ["paint", "place"], ["paint", "place", "way", "rows", "column", "row", "ink"], dArgs (top 44), dBody (top 44), dScope (top 44), f_law_shown⟩,
  ⟨"law", ["script"], ["script", "cup", "turn", "paint", "kept", "some", "place", "due", "found", "ink"], dArgs (top 45), dBody (top 45), dScope (top 45), f_law⟩]
def Lks : Lk := ⟨((["sign_of", "lowest", "fraction", "plus", "minus", "times", "over", "compared", "floor_of", "rounded", "whole", "apart", "along", "without_sign", "around", "way_at", "brought", "held", "ink_by", "tile_at"] : List PySem.Str) ++ (["paint_at", "_law_cup", "_law_roll", "_law_some", "_law_inks", "_law_point", "_law_row", "_law_paint", "_law_lowest", "_law_number", "_law_place", "_law_near", "_law_way", "_law_brought", "_law_ink", "_law_shown", "law"] : List PySem.Str)), ["ONE"], true⟩
def Gs : List PyData := [.tuple [.int (1), .int (1)]]
def dLaw : Dfn := ⟨"law", ["script"], ["script", "cup", "turn", "paint", "kept", "some", "place", "due", "found", "ink"], dArgs (top 45), dBody (top 45), dScope (top 45), f_law⟩
def wfL : Nat := 1000
end Xp

namespace Xp
open PySem PySem.Spec PyProof.Rows L2
theorem oks : Ds.all (fun d => d.ok Lks) = true := by decide +kernel
theorem bsA : ∀ d ∈ Ds, argsB d := by
  unfold Ds
  refine List.forall_mem_cons.mpr ⟨fun _ _ _ _ _ _ us hl => match us, hl with | [_], _ => rfl, ?_⟩
  refine List.forall_mem_cons.mpr ⟨fun _ _ _ _ _ _ us hl => match us, hl with | [_, _], _ => rfl, ?_⟩
  refine List.forall_mem_cons.mpr ⟨fun _ _ _ _ _ _ us hl => match us, hl with | [_, _], _ => rfl, ?_⟩
  refine List.forall_mem_cons.mpr ⟨fun _ _ _ _ _ _ us hl => match us, hl with | [_, _], _ => rfl, ?_⟩
  refine List.forall_mem_cons.mpr ⟨fun _ _ _ _ _ _ us hl => match us, hl with | [_, _], _ => rfl, ?_⟩
  refine List.forall_mem_cons.mpr ⟨fun _ _ _ _ _ _ us hl => match us, hl with | [_, _], _ => rfl, ?_⟩
  refine List.forall_mem_cons.mpr ⟨fun _ _ _ _ _ _ us hl => match us, hl with | [_, _], _ => rfl, ?_⟩
  refine List.forall_mem_cons.mpr ⟨fun _ _ _ _ _ _ us hl => match us, hl with | [_, _], _ => rfl, ?_⟩
  refine List.forall_mem_cons.mpr ⟨fun _ _ _ _ _ _ us hl => match us, hl with | [_], _ => rfl, ?_⟩
  refine List.forall_mem_cons.mpr ⟨fun _ _ _ _ _ _ us hl => match us, hl with | [_], _ => rfl, ?_⟩
  refine List.forall_mem_cons.mpr ⟨fun _ _ _ _ _ _ us hl => match us, hl with | [_], _ => rfl, ?_⟩
  refine List.forall_mem_cons.mpr ⟨fun _ _ _ _ _ _ us hl => match us, hl with | [_, _], _ => rfl, ?_⟩
  refine List.forall_mem_cons.mpr ⟨fun _ _ _ _ _ _ us hl => match us, hl with | [_, _], _ => rfl, ?_⟩
  refine List.forall_mem_cons.mpr ⟨fun _ _ _ _ _ _ us hl => match us, hl with | [_], _ => rfl, ?_⟩
  refine List.forall_mem_cons.mpr ⟨fun _ _ _ _ _ _ us hl => match us, hl with | [_, _], _ => rfl, ?_⟩
  refine List.forall_mem_cons.mpr ⟨fun _ _ _ _ _ _ us hl => match us, hl with | [_, _], _ => rfl, ?_⟩
  refine List.forall_mem_cons.mpr ⟨fun _ _ _ _ _ _ us hl => match us, hl with | [_, _], _ => rfl, ?_⟩
  refine List.forall_mem_cons.mpr ⟨fun _ _ _ _ _ _ us hl => match us, hl with | [_], _ => rfl, ?_⟩
  refine List.forall_mem_cons.mpr ⟨fun _ _ _ _ _ _ us hl => match us, hl with | [_, _, _], _ => rfl, ?_⟩
  refine List.forall_mem_cons.mpr ⟨fun _ _ _ _ _ _ us hl => match us, hl with | [_, _], _ => rfl, ?_⟩
  refine List.forall_mem_cons.mpr ⟨fun _ _ _ _ _ _ us hl => match us, hl with | [_, _], _ => rfl, ?_⟩
  refine List.forall_mem_cons.mpr ⟨fun _ _ _ _ _ _ us hl => match us, hl with | [_], _ => rfl, ?_⟩
  refine List.forall_mem_cons.mpr ⟨fun _ _ _ _ _ _ us hl => match us, hl with | [_, _], _ => rfl, ?_⟩
  refine List.forall_mem_cons.mpr ⟨fun _ _ _ _ _ _ us hl => match us, hl with | [_, _], _ => rfl, ?_⟩
  refine List.forall_mem_cons.mpr ⟨fun _ _ _ _ _ _ us hl => match us, hl with | [_], _ => rfl, ?_⟩
  refine List.forall_mem_cons.mpr ⟨fun _ _ _ _ _ _ us hl => match us, hl with | [_, _], _ => rfl, ?_⟩
  refine List.forall_mem_cons.mpr ⟨fun _ _ _ _ _ _ us hl => match us, hl with | [_, _], _ => rfl, ?_⟩
  refine List.forall_mem_cons.mpr ⟨fun _ _ _ _ _ _ us hl => match us, hl with | [_, _], _ => rfl, ?_⟩
  refine List.forall_mem_cons.mpr ⟨fun _ _ _ _ _ _ us hl => match us, hl with | [_, _], _ => rfl, ?_⟩
  refine List.forall_mem_cons.mpr ⟨fun _ _ _ _ _ _ us hl => match us, hl with | [_], _ => rfl, ?_⟩
  refine List.forall_mem_cons.mpr ⟨fun _ _ _ _ _ _ us hl => match us, hl with | [_], _ => rfl, ?_⟩
  refine List.forall_mem_cons.mpr ⟨fun _ _ _ _ _ _ us hl => match us, hl with | [_, _], _ => rfl, ?_⟩
  refine List.forall_mem_cons.mpr ⟨fun _ _ _ _ _ _ us hl => match us, hl with | [_, _], _ => rfl, ?_⟩
  refine List.forall_mem_cons.mpr ⟨fun _ _ _ _ _ _ us hl => match us, hl with | [_, _], _ => rfl, ?_⟩
  refine List.forall_mem_cons.mpr ⟨fun _ _ _ _ _ _ us hl => match us, hl with | [_, _, _], _ => rfl, ?_⟩
  refine List.forall_mem_cons.mpr ⟨fun _ _ _ _ _ _ us hl => match us, hl with | [_, _], _ => rfl, ?_⟩
  refine List.forall_mem_cons.mpr ⟨fun _ _ _ _ _ _ us hl => match us, hl with | [_], _ => rfl, ?_⟩
  exact fun _ h => by cases h
def loose0 : List PySem.Str := ["PaintError", "InvalidNumber", "sign_of", "ONE", "lowest", "fraction", "plus", "minus", "times", "over", "compared", "floor_of", "rounded", "whole", "apart", "along", "without_sign", "around", "way_at", "brought"]
def loose1 : List PySem.Str := ["held", "ink_by", "tile_at", "paint_at", "_law_cup", "_law_roll", "_law_some", "_law_inks", "_law_point", "_law_row", "_law_paint", "_law_lowest", "_law_number", "_law_place", "_law_near", "_law_way", "_law_brought", "_law_ink", "_law_shown"]
abbrev Rw : PySem.W.OpenRow := PySem.W.OpenLaw.row PySem.Challenge.rw_exactpaint_k47_whole_paints_shown
abbrev hk : PySem.W.Hook := hookX 4 Lks Gs Ds
def ob (s : PySem.W.SharedT) : Bool × He.AlD := obX 4 Lks Gs Ds (HandSHeadRun.getT s)
theorem ob_eq (s : PySem.W.SharedT) : ob s = hk.obs s.abs := obX_eq (HandSHeadRun.getT_eq s)
theorem runs_top (w : World) : HandSHeadRun.RunEqI Rw (PySem.W.view Rw.prog [0, 45]) hk ob 20000 (loose0 ++ loose1) w := by
  unfold HandSHeadRun.RunEqI
  kernel_rfl
end Xp

open Xp in
local macro_rules | `(tactic| and_intros) => `(tactic| repeat (first | ((with_reducible apply w_int)) | ((with_reducible apply w_bl)) | ((with_reducible apply w_non)) | ((with_reducible apply w_str)) | ((with_reducible apply w_vb); exact rfl) | ((with_reducible apply w_var); exact rfl) | ((with_reducible apply w_vm); exact rfl) | ((with_reducible apply w_glb); exact rfl) | ((with_reducible apply w_fnv)) | ((with_reducible apply w_bin)) | ((with_reducible apply w_cmp)) | ((with_reducible apply w_cmp2)) | ((with_reducible apply w_and)) | ((with_reducible apply w_or)) | ((with_reducible apply w_not)) | ((with_reducible apply w_ite)) | ((with_reducible apply w_cal)) | ((with_reducible apply w_cav); exact rfl) | ((with_reducible apply w_u1)) | ((with_reducible apply w_u2)) | ((with_reducible apply w_ix)) | ((with_reducible apply w_sl)) | ((with_reducible apply w_tup)) | ((with_reducible apply w_lst)) | ((with_reducible apply w_scr)) | ((with_reducible apply w_lc)) | ((with_reducible apply es_n)) | ((with_reducible apply es_c)) | ((with_reducible apply p_no)) | ((with_reducible apply ss_n)) | ((with_reducible apply ss_c)) | ((with_reducible apply s_asg)) | ((with_reducible apply s_asgT)) | ((with_reducible apply s_asgC)) | ((with_reducible apply s_par)) | ((with_reducible apply s_exp)) | ((with_reducible apply s_ret)) | ((with_reducible apply s_retN)) | ((with_reducible apply s_ite)) | ((with_reducible apply s_setv)) | ((with_reducible apply s_app); exact rfl) | ((with_reducible apply s_for)) | ((with_reducible apply s_brk)) | ((with_reducible apply s_cnt)) | ((with_reducible apply s_pass)) | ((with_reducible apply i_seq)) | ((with_reducible apply i_rng1)) | ((with_reducible apply i_rng2)) | ((with_reducible apply x_r); exact rfl) | ((with_reducible apply t_f); exact rfl) | ((with_reducible apply t_c); exact rfl) | ((with_reducible apply c_n)) | ((with_reducible apply x_y); exact rfl) | ((with_reducible apply th_nx)) | ((with_reducible apply th_bk)) | ((with_reducible apply th_ct)) | ((with_reducible apply th_rt)) | ((with_reducible apply nl_nx)) | ((with_reducible apply nl_ct)) | ((with_reducible apply nl_bk)) | ((with_reducible apply nl_rt)) | ((with_reducible apply l_n)) | ((with_reducible apply wp_some1)) | ((with_reducible apply wp_bd2)) | ((with_reducible apply wp_on1); exact rfl) | ((with_reducible apply o_mul); exact rfl; exact rfl; exact mulOk_r rfl) | ((with_reducible apply o_mul); exact rfl; exact rfl; exact mulOk_l rfl) | ((with_reducible apply o_fdiv); exact rfl; exact rfl; exact divOk_l rfl) | ((with_reducible apply o_mod); exact rfl; exact rfl; decide) | ((with_reducible apply o_mul); exact rfl; exact rfl; rotate_left) | ((with_reducible apply o_fdiv); exact rfl; exact rfl; rotate_left) | ((with_reducible apply o_mod); exact rfl; exact rfl; rotate_left) | ((with_reducible apply o_rep); exact rfl; rotate_left) | ((with_reducible apply o_eqI); exact rfl; exact rfl) | ((with_reducible apply o_neI); exact rfl; exact rfl) | ((with_reducible apply o_in2); exact rfl; exact rfl; decide +kernel) | ((with_reducible apply o_neS); exact rfl; exact rfl) | ((with_reducible apply oC); exact rfl) | ((with_reducible apply oB); exact rfl) | ((with_reducible apply oI); exact rfl) | ((with_reducible apply oF); exact rfl) | ((with_reducible apply o_ix0); exact rfl; exact rfl) | ((with_reducible apply o1); exact rfl) | ((with_reducible apply o2); exact rfl) | ((with_reducible apply c_tr); exact rfl) | ((with_reducible apply c_fl); exact rfl) | ((with_reducible apply x_i); exact rfl) | ((with_reducible apply x_s); exact rfl) | ((with_reducible apply x_k); exact rfl) | ((with_reducible apply x_t); exact rfl; exact rfl) | ((with_reducible apply x_o); exact rfl; exact rfl) | ((with_reducible apply x_u); exact rfl) | ((with_reducible apply o_eqI); exact rfl; exact rfl) | ((with_reducible apply o_neI); exact rfl; exact rfl)))
namespace Xp
open PySem
abbrev Ps : List Df := Ds.map (·.df)
abbrev fr (N D : Int) : PyData := .tuple [.int (lo N D).1, .int (lo N D).2]
abbrev rf (N D : Int) : R := .w (.d (fr N D))
def sgn (a : Int) : Int := (if decide (0 < a) = true then 1 else 0) - (if decide (a < 0) = true then 1 else 0)
def ab (a : Int) : Int := if a < 0 then -a else a
theorem sgn_pos {a : Int} (h : 0 < a) : sgn a = 1 := by
  unfold sgn
  rw [if_pos (decide_eq_true h), if_neg (by rw [decide_eq_false (by omega)]; decide)]
  rfl
theorem sgn_zero : sgn 0 = 0 := rfl
theorem sgn_neg {a : Int} (h : a < 0) : sgn a = -1 := by
  unfold sgn
  rw [if_neg (by rw [decide_eq_false (by omega)]; decide), if_pos (decide_eq_true h)]
  rfl
theorem sgn_le {a : Int} : (sgn a ≤ 0) = (a ≤ 0) := by
  rcases Int.lt_trichotomy a 0 with h | h | h
  · rw [sgn_neg h]; apply propext; omega
  · subst h; rw [sgn_zero]
  · rw [sgn_pos h]; apply propext; omega
theorem sgn_lt {a : Int} : (sgn a < 0) = (a < 0) := by
  rcases Int.lt_trichotomy a 0 with h | h | h
  · rw [sgn_neg h]; apply propext; omega
  · subst h; rw [sgn_zero]
  · rw [sgn_pos h]; apply propext; omega
theorem sgn_scale {x y c d : Int} (hc : 0 < c) (hd : 0 < d) (h : x * c = y * d) : sgn x = sgn y := by
  rcases Int.lt_trichotomy x 0 with hx | hx | hx
  · have : x * c < 0 := Int.mul_neg_of_neg_of_pos hx hc
    have hy : y < 0 := by
      apply Classical.byContradiction
      intro z
      have := Int.mul_nonneg (show 0 ≤ y by omega) (Int.le_of_lt hd)
      omega
    rw [sgn_neg hx, sgn_neg hy]
  · subst hx
    rw [Int.zero_mul] at h
    have hy : y = 0 := by
      rcases Int.mul_eq_zero.mp h.symm with z | z
      · exact z
      · omega
    rw [hy]
  · have : 0 < x * c := Int.mul_pos hx hc
    have hy : 0 < y := by
      apply Classical.byContradiction
      intro z
      have := Int.mul_nonneg (show 0 ≤ -y by omega) (Int.le_of_lt hd)
      rw [Int.neg_mul] at this
      omega
    rw [sgn_pos hx, sgn_pos hy]
theorem fr_one {x : Int} : fr x 1 = .tuple [.int x, .int 1] := by
  show PyData.tuple [.int (lo x 1).1, .int (lo x 1).2] = _
  rw [lo_id Int.gcd_one]
theorem fr_eq {N D M E : Int} (hD : 0 < D) (hE : 0 < E) (h : N * E = M * D) : fr N D = fr M E := by
  show PyData.tuple [.int (lo N D).1, .int (lo N D).2] = _
  rw [lo_uniq hD hE h]
theorem lo_ab {N D : Int} : lo (ab N) D = (ab (lo N D).1, (lo N D).2) := by
  unfold ab
  split
  · rename_i h
    have e : lo (-N) D = (-(lo N D).1, (lo N D).2) := by
      unfold lo
      rw [Int.neg_gcd]
      simp only [Prod.mk.injEq, and_true]
      exact Int.neg_ediv_of_dvd (Int.gcd_dvd_left N D)
    rw [e]
    by_cases c : (lo N D).1 < 0
    · rw [if_pos c]
    · exfalso
      have h1 := lo_t (t := N) (b := D)
      have := Int.mul_nonneg (show 0 ≤ (lo N D).1 by omega) (show (0 : Int) ≤ (Int.gcd N D : Int) by omega)
      omega
  · rename_i h
    by_cases c : (lo N D).1 < 0
    · exfalso
      have h1 := lo_t (t := N) (b := D)
      have h2 : (lo N D).1 = N / (Int.gcd N D : Int) := rfl
      have := Int.ediv_nonneg (show 0 ≤ N by omega) (show (0 : Int) ≤ (Int.gcd N D : Int) by omega)
      omega
    · rw [if_neg c]
theorem Bs {j : Nat} {a : Int} (h : a.natAbs < 2 ^ 64) (l : 64 ≤ j) : B j a := (show B 64 a from h).mono l
theorem lit {j : Nat} {a : Int} (h : a.natAbs < 2 ^ 64) (l : decide (64 ≤ j) = true) : B j a := Bs h (of_decide_eq_true l)
theorem ab_B {k : Nat} {a : Int} (h : B k a) : B k (ab a) := by
  unfold ab B at *
  split <;> omega
theorem at_ok {xs : List PyData} {r : Int} (h0 : 0 ≤ r) (h1 : r < xs.length) : ∃ x, x ∈ xs ∧ atD xs r = some x := by
  obtain ⟨n, rfl⟩ := Int.eq_ofNat_of_zero_le h0
  have hn : n < xs.length := by omega
  refine ⟨xs[n], List.getElem_mem hn, ?_⟩
  unfold atD L2.atI L2.ixN
  rw [if_pos h0, if_pos h1]
  show xs[(n : Int).toNat]? = _
  rw [Int.toNat_natCast, List.getElem?_eq_getElem hn]
theorem at0 {x : PyData} {xs : List PyData} : atD (x :: xs) 0 = some x := by
  unfold atD L2.atI L2.ixN
  rw [if_pos (by decide), if_pos (by simp)]
  rfl
theorem rng_len (n : Nat) (lo : Int) : (rngD lo n).length = n := rngD_len n lo
theorem gcd_mod (a c : Int) : Int.gcd c (a % c) = Int.gcd a c := by
  have := Int.gcd_add_mul_left_right c (a % c) (a / c)
  rw [Int.emod_add_mul_ediv] at this
  rw [← this]
  exact Int.gcd_comm _ _
/-- a comprehension without a test -/
theorem rel_all {p : PyData → Prop} : ∀ {xs r : List PyData}, Rel (fun _ o => ∃ y, o = some y ∧ p y) xs r → r.length = xs.length ∧ ∀ y ∈ r, p y
  | _, _, .nil => ⟨rfl, fun y h => by cases h⟩
  | _, _, .cons h t => by
    obtain ⟨y, rfl, hy⟩ := h
    obtain ⟨h1, h2⟩ := rel_all t
    refine ⟨by simp [h1], fun z hz => ?_⟩
    rcases List.mem_cons.mp hz with rfl | q
    · exact hy
    · exact h2 z q
theorem len2 {xs : List PyData} (h : xs.length = 2) : ∃ a b, xs = [a, b] := by
  match xs, h with
  | [a, b], _ => exact ⟨a, b, rfl⟩
theorem len3 {xs : List PyData} (h : xs.length = 3) : ∃ a b c, xs = [a, b, c] := by
  match xs, h with
  | [a, b, c], _ => exact ⟨a, b, c, rfl⟩
section
variable {k : Nat} {st : List Cell} {Q : R → List Cell → Prop}
theorem sign_spec {a : Int} (h : Q (.i (sgn a)) st) : wc (call Ps Gs wfL (k + 1) 0 [.d (.int a)] st) Q := by
  refine wc_call (d := f_sign_of) rfl rfl ?_
  dsimp only [f_sign_of, List.map, List.replicate, HAppend.hAppend, Append.append, List.append, Nat.sub, HSub.hSub, Sub.sub]
  and_intros
  exact h
theorem lowest_spec {t b : Int} (hb : 0 < b) (bb : B 8000 b) (h : Q (rf t b) st) : wc (call Ps Gs wfL (k + 2) 1 [.d (.int t), .d (.int b)] st) Q := by
  refine wc_call (d := f_lowest) rfl rfl ?_
  dsimp only [f_lowest, List.map, List.replicate, HAppend.hAppend, Append.append, List.append, Nat.sub, HSub.hSub, Sub.sub]
  and_intros
  refine sign_spec ?_
  rw [sgn_pos hb]
  and_intros
  have g := gcd_pos (t := t) hb
  have e : ((Nat.gcd t.natAbs b.natAbs : Nat) : Int) * 1 = (Int.gcd t b : Int) := Int.mul_one _
  · rw [e, Int.fdiv_eq_ediv_of_nonneg _ (Int.le_of_lt g), Int.fdiv_eq_ediv_of_nonneg _ (Int.le_of_lt g)]
    exact h
  all_goals exact divOk_of (j := 8000) (by rw [Int.mul_one]; exact bb.le (Nat.le_of_dvd (by omega) (Nat.gcd_dvd_right _ _))) (by decide) (by have g := gcd_pos (t := t) hb; rw [Int.mul_one]; exact Int.ne_of_gt g)
theorem whole_spec {t : Int} (h : Q (rf t 1) st) : wc (call Ps Gs wfL (k + 1) 10 [.d (.int t)] st) Q := by
  refine wc_call (d := f_whole) rfl rfl ?_
  dsimp only [f_whole, List.map, List.replicate, HAppend.hAppend, Append.append, List.append, Nat.sub, HSub.hSub, Sub.sub]
  and_intros
  unfold rf at h
  rw [fr_one] at h
  exact h
theorem floor_spec {N D : Int} (hD : 0 < D) (bD : B 3000 D) (h : Q (.i (N / D)) st) : wc (call Ps Gs wfL (k + 1) 8 [.d (fr N D)] st) Q := by
  have p := lo_pos (t := N) hD
  have bd := lo_B2 (t := N) hD bD
  refine wc_call (d := f_floor_of) rfl rfl ?_
  dsimp only [f_floor_of, List.map, List.replicate, HAppend.hAppend, Append.append, List.append, Nat.sub, HSub.hSub, Sub.sub]
  and_intros
  · rw [Int.fdiv_eq_ediv_of_nonneg _ (Int.le_of_lt p), lo_floor hD]
    exact h
  · exact divOk_of bd (by decide) (Int.ne_of_gt p)
theorem rounded_spec {N D : Int} (hD : 0 < D) (bD : B 3000 D) (h : Q (.i ((2 * N + D) / (2 * D))) st) : wc (call Ps Gs wfL (k + 1) 9 [.d (fr N D)] st) Q := by
  have p := lo_pos (t := N) hD
  have bd := lo_B2 (t := N) hD bD
  have e := round_ratio p hD (lo_cross (t := N) (b := D))
  refine wc_call (d := f_rounded) rfl rfl ?_
  dsimp only [f_rounded, List.map, List.replicate, HAppend.hAppend, Append.append, List.append, Nat.sub, HSub.hSub, Sub.sub]
  and_intros
  · rw [Int.fdiv_eq_ediv_of_nonneg _ (by omega), e]
    exact h
  · exact divOk_of (B.mul (show B 2 2 from by unfold B; decide) bd) (by decide) (by omega)
theorem plus_spec {N D M E : Int} (hD : 0 < D) (hE : 0 < E) (bN : B 3000 N) (bD : B 3000 D) (bM : B 3000 M) (bE : B 3000 E) (h : Q (rf (N * E + M * D) (D * E)) st) : wc (call Ps Gs wfL (k + 3) 3 [.d (fr N D), .d (fr M E)] st) Q := by
  have p1 := lo_pos (t := N) hD
  have p2 := lo_pos (t := M) hE
  have c1 := lo_cross (t := N) (b := D)
  have c2 := lo_cross (t := M) (b := E)
  have b1 := lo_B1 hD bN
  have b2 := lo_B2 (t := N) hD bD
  have b3 := lo_B1 hE bM
  have b4 := lo_B2 (t := M) hE bE
  refine wc_call (d := f_plus) rfl rfl ?_
  dsimp only [f_plus, List.map, List.replicate, HAppend.hAppend, Append.append, List.append, Nat.sub, HSub.hSub, Sub.sub]
  and_intros
  generalize (lo N D).1 = n at *
  generalize (lo N D).2 = d at *
  generalize (lo M E).1 = m at *
  generalize (lo M E).2 = e at *
  · refine lowest_spec (Int.mul_pos p1 p2) ((b2.mul b4).mono (by decide)) ?_
    unfold rf
    rw [fr_eq (M := N * E + M * D) (E := D * E) (Int.mul_pos p1 p2) (Int.mul_pos hD hE) (by grind)]
    and_intros
    exact h
  · exact mulOk_of b1 b4 (by decide)
  · exact mulOk_of b3 b2 (by decide)
  · exact mulOk_of b2 b4 (by decide)
theorem minus_spec {N D M E : Int} (hD : 0 < D) (hE : 0 < E) (bN : B 3000 N) (bD : B 3000 D) (bM : B 3000 M) (bE : B 3000 E) (h : Q (rf (N * E - M * D) (D * E)) st) : wc (call Ps Gs wfL (k + 3) 4 [.d (fr N D), .d (fr M E)] st) Q := by
  have p1 := lo_pos (t := N) hD
  have p2 := lo_pos (t := M) hE
  have c1 := lo_cross (t := N) (b := D)
  have c2 := lo_cross (t := M) (b := E)
  have b1 := lo_B1 hD bN
  have b2 := lo_B2 (t := N) hD bD
  have b3 := lo_B1 hE bM
  have b4 := lo_B2 (t := M) hE bE
  refine wc_call (d := f_minus) rfl rfl ?_
  dsimp only [f_minus, List.map, List.replicate, HAppend.hAppend, Append.append, List.append, Nat.sub, HSub.hSub, Sub.sub]
  and_intros
  generalize (lo N D).1 = n at *
  generalize (lo N D).2 = d at *
  generalize (lo M E).1 = m at *
  generalize (lo M E).2 = e at *
  · refine lowest_spec (Int.mul_pos p1 p2) ((b2.mul b4).mono (by decide)) ?_
    unfold rf
    rw [fr_eq (M := N * E - M * D) (E := D * E) (Int.mul_pos p1 p2) (Int.mul_pos hD hE) (by grind)]
    and_intros
    exact h
  · exact mulOk_of b1 b4 (by decide)
  · exact mulOk_of b3 b2 (by decide)
  · exact mulOk_of b2 b4 (by decide)
theorem times_spec {N D M E : Int} (hD : 0 < D) (hE : 0 < E) (bN : B 3000 N) (bD : B 3000 D) (bM : B 3000 M) (bE : B 3000 E) (h : Q (rf (N * M) (D * E)) st) : wc (call Ps Gs wfL (k + 3) 5 [.d (fr N D), .d (fr M E)] st) Q := by
  have p1 := lo_pos (t := N) hD
  have p2 := lo_pos (t := M) hE
  have c1 := lo_cross (t := N) (b := D)
  have c2 := lo_cross (t := M) (b := E)
  have b1 := lo_B1 hD bN
  have b2 := lo_B2 (t := N) hD bD
  have b3 := lo_B1 hE bM
  have b4 := lo_B2 (t := M) hE bE
  refine wc_call (d := f_times) rfl rfl ?_
  dsimp only [f_times, List.map, List.replicate, HAppend.hAppend, Append.append, List.append, Nat.sub, HSub.hSub, Sub.sub]
  and_intros
  generalize (lo N D).1 = n at *
  generalize (lo N D).2 = d at *
  generalize (lo M E).1 = m at *
  generalize (lo M E).2 = e at *
  · refine lowest_spec (Int.mul_pos p1 p2) ((b2.mul b4).mono (by decide)) ?_
    unfold rf
    rw [fr_eq (M := N * M) (E := D * E) (Int.mul_pos p1 p2) (Int.mul_pos hD hE) (by grind)]
    and_intros
    exact h
  · exact mulOk_of b1 b3 (by decide)
  · exact mulOk_of b2 b4 (by decide)
theorem fraction_spec {t b : Int} (hb : 0 < b) (bb : B 8000 b) (h : Q (rf t b) st) : wc (call Ps Gs wfL (k + 3) 2 [.d (.int t), .d (.int b)] st) Q := by
  refine wc_call (d := f_fraction) rfl rfl ?_
  dsimp only [f_fraction, List.map, List.replicate, HAppend.hAppend, Append.append, List.append, Nat.sub, HSub.hSub, Sub.sub]
  and_intros
  refine c_dec (fun z => by omega) (fun _ => ?_)
  and_intros
  refine lowest_spec hb bb ?_
  and_intros
  exact h
theorem over_spec {N D M E : Int} (hD : 0 < D) (hE : 0 < E) (hM : 0 < M) (bN : B 3000 N) (bD : B 3000 D) (bM : B 3000 M) (bE : B 3000 E) (h : Q (rf (N * E) (D * M)) st) : wc (call Ps Gs wfL (k + 4) 6 [.d (fr N D), .d (fr M E)] st) Q := by
  have p1 := lo_pos (t := N) hD
  have p2 := lo_pos (t := M) hE
  have c1 := lo_cross (t := N) (b := D)
  have c2 := lo_cross (t := M) (b := E)
  have b1 := lo_B1 hD bN
  have b2 := lo_B2 (t := N) hD bD
  have b3 := lo_B1 hE bM
  have b4 := lo_B2 (t := M) hE bE
  have p3 : 0 < (lo M E).1 := by
    have h1 : 0 < M * (lo M E).2 := Int.mul_pos hM p2
    rw [← c2] at h1
    refine Int.lt_of_mul_lt_mul_right (?_ : 0 * E < _ * E) (Int.le_of_lt hE)
    rw [Int.zero_mul]
    exact h1
  refine wc_call (d := f_over) rfl rfl ?_
  dsimp only [f_over, List.map, List.replicate, HAppend.hAppend, Append.append, List.append, Nat.sub, HSub.hSub, Sub.sub]
  and_intros
  generalize (lo N D).1 = n at *
  generalize (lo N D).2 = d at *
  generalize (lo M E).1 = m at *
  generalize (lo M E).2 = e at *
  · refine fraction_spec (Int.mul_pos p1 p3) ((b2.mul b3).mono (by decide)) ?_
    unfold rf
    rw [fr_eq (M := N * E) (E := D * M) (Int.mul_pos p1 p3) (Int.mul_pos hD hM) (by grind)]
    and_intros
    exact h
  · exact mulOk_of b1 b4 (by decide)
  · exact mulOk_of b2 b3 (by decide)
theorem compared_spec {N D M E : Int} (hD : 0 < D) (hE : 0 < E) (bN : B 3000 N) (bD : B 3000 D) (bM : B 3000 M) (bE : B 3000 E) (h : Q (.i (sgn (N * E - M * D))) st) : wc (call Ps Gs wfL (k + 2) 7 [.d (fr N D), .d (fr M E)] st) Q := by
  have p1 := lo_pos (t := N) hD
  have p2 := lo_pos (t := M) hE
  have c1 := lo_cross (t := N) (b := D)
  have c2 := lo_cross (t := M) (b := E)
  have b1 := lo_B1 hD bN
  have b2 := lo_B2 (t := N) hD bD
  have b3 := lo_B1 hE bM
  have b4 := lo_B2 (t := M) hE bE
  refine wc_call (d := f_compared) rfl rfl ?_
  dsimp only [f_compared, List.map, List.replicate, HAppend.hAppend, Append.append, List.append, Nat.sub, HSub.hSub, Sub.sub]
  and_intros
  generalize (lo N D).1 = n at *
  generalize (lo N D).2 = d at *
  generalize (lo M E).1 = m at *
  generalize (lo M E).2 = e at *
  · refine sign_spec ?_
    rw [sgn_scale (y := N * E - M * D) (Int.mul_pos hD hE) (Int.mul_pos p1 p2) (by grind)]
    and_intros
    exact h
  · exact mulOk_of b1 b4 (by decide)
  · exact mulOk_of b3 b2 (by decide)
theorem unsign_spec {N D : Int} (h : Q (rf (ab N) D) st) : wc (call Ps Gs wfL (k + 1) 13 [.d (fr N D)] st) Q := by
  unfold rf fr at h
  rw [lo_ab] at h
  refine wc_call (d := f_without_sign) rfl rfl ?_
  dsimp only [f_without_sign, List.map, List.replicate, HAppend.hAppend, Append.append, List.append, Nat.sub, HSub.hSub, Sub.sub]
  and_intros
  exact h
theorem roll_spec {a b m : Int} (hm : 0 < m) (bm : m < 2 ^ 63) (h : ∀ r a' b', 0 ≤ r → r < m → Q (.i r) [[.int a', .int b']]) : wc (call Ps Gs wfL (k + 1) 22 [.cell 0, .d (.int m)] [[.int a, .int b]]) Q := by
  refine wc_call (d := f_law_roll) rfl rfl ?_
  dsimp only [f_law_roll, List.map, List.replicate, HAppend.hAppend, Append.append, List.append, Nat.sub, HSub.hSub, Sub.sub]
  and_intros
  refine c_dec (fun _ => ?_) (fun _ => ?_)
  · and_intros
    · refine h _ _ _ ?_ ?_
      · rw [Int.fmod_eq_emod_of_nonneg _ (Int.le_of_lt hm)]; exact Int.emod_nonneg _ (Int.ne_of_gt hm)
      · rw [Int.fmod_eq_emod_of_nonneg _ (Int.le_of_lt hm)]; exact Int.emod_lt_of_pos _ hm
    · exact Int.ne_of_gt hm
    · exact divOk_of (j := 64) (show m.natAbs < 2 ^ 64 by omega) (by decide) (Int.ne_of_gt hm)
  · and_intros
    · refine h _ _ _ ?_ ?_
      · rw [Int.fmod_eq_emod_of_nonneg _ (Int.le_of_lt hm)]; exact Int.emod_nonneg _ (Int.ne_of_gt hm)
      · rw [Int.fmod_eq_emod_of_nonneg _ (Int.le_of_lt hm)]; exact Int.emod_lt_of_pos _ hm
    · refine mulOk_l (decide_eq_true ?_)
      rw [Int.fmod_eq_emod_of_nonneg _ (by decide)]
      omega
    · exact Int.ne_of_gt hm
theorem some_spec {xs : List PyData} {a b : Int} (h0 : 0 < xs.length) (h1 : xs.length < 1000) (h : ∀ x ∈ xs, ∀ a' b', Q (.w (.d x)) [[.int a', .int b']]) : wc (call Ps Gs wfL (k + 2) 23 [.cell 0, .d (.list xs)] [[.int a, .int b]]) Q := by
  refine wc_call (d := f_law_some) rfl rfl ?_
  dsimp only [f_law_some, List.map, List.replicate, HAppend.hAppend, Append.append, List.append, Nat.sub, HSub.hSub, Sub.sub]
  and_intros
  refine roll_spec (by omega) (by omega) fun r a' b' hr0 hr1 => ?_
  obtain ⟨x, hx, e⟩ := at_ok hr0 hr1
  refine o2 (r := .w (.d x)) (by show (atD xs r).map _ = _; rw [e]; rfl) ?_
  and_intros
  exact h x hx a' b'
theorem some_int {xs : List PyData} {a b : Int} {p : Int → Prop} (hp : ∀ x ∈ xs, ∃ v, x = .int v ∧ p v) (h0 : 0 < xs.length) (h1 : xs.length < 1000) (h : ∀ v a' b', p v → Q (.i v) [[.int a', .int b']]) : wc (call Ps Gs wfL (k + 2) 23 [.cell 0, .d (.list xs)] [[.int a, .int b]]) Q :=
  some_spec h0 h1 fun x hx a' b' => by
    obtain ⟨v, rfl, hv⟩ := hp x hx
    exact h v a' b' hv
abbrev euB : Sts := .cons (.ite (.cmp .eq (.vb 4) (.int 0)) (.cons (.brk) (.nil)) (.nil)) (.cons (.par [3, 4] (.cons (.var 4) (.cons (.bin .sub (.vb 3) (.bin .mul (.bin .fdiv (.vb 3) (.vb 4)) (.vb 4))) (.nil)))) (.nil))
abbrev euF (k : Nat) := turnF (call Ps Gs wfL k) Gs wfL (.v 2) euB
theorem eu_end {T U : Option R} {u2 : Option R} {a : Int} {x : PyData} {xs : List PyData} {QF : Fl → S → Prop} (h : ∀ u2', QF .nx ⟨[T, U, u2', some (.i a), some (.i 0)], st⟩) : wp (loopL (euF k) (x :: xs) ⟨[T, U, u2, some (.i a), some (.i 0)], st⟩) QF := by
  apply l_c
  and_intros
  exact h _
theorem eu_step {T U : Option R} {u2 : Option R} {a c : Int} {x : PyData} {xs : List PyData} {QF : Fl → S → Prop} (hc : 0 < c) (ba : B 5000 a) (hb : B 5000 c) (h : ∀ u2', wp (loopL (euF k) xs ⟨[T, U, u2', some (.i c), some (.i (a % c))], st⟩) QF) : wp (loopL (euF k) (x :: xs) ⟨[T, U, u2, some (.i a), some (.i c)], st⟩) QF := by
  apply l_c
  and_intros
  refine c_dec (fun z => by omega) (fun _ => ?_)
  and_intros
  · have e : a - a.fdiv c * c = a % c := by
      rw [Int.fdiv_eq_ediv_of_nonneg _ (Int.le_of_lt hc), Int.emod_def, Int.mul_comm]
    rw [e]
    exact h _
  · exact divOk_of hb (by decide) (Int.ne_of_gt hc)
  · exact mulOk_of (ba.fdiv hc) hb (by decide)
theorem eu {T U : Option R} {QF : Fl → S → Prop} : ∀ (m : Nat) (xs : List PyData) (a c : Int) (u2 : Option R), m ≤ 199 → B 5000 a → 0 ≤ a → 0 ≤ c → c < 2 ^ m → 2 * m + 1 ≤ xs.length → (∀ u2', QF .nx ⟨[T, U, u2', some (.i (Int.gcd a c)), some (.i 0)], st⟩) → wp (loopL (euF k) xs ⟨[T, U, u2, some (.i a), some (.i c)], st⟩) QF
  | _, [], _, _, _, _, _, _, _, _, hl, _ => by simp at hl
  | m, x :: xs, a, c, u2, hm, ba, ha, hc, hb, hl, h => by
    have big : B 5000 c := by
      have h1 : c.natAbs < 2 ^ m := by
        have e : ((2 ^ m : Nat) : Int) = 2 ^ m := by push_cast; rfl
        omega
      exact (show B m c from h1).mono (by omega)
    by_cases z : c = 0
    · subst z
      refine eu_end fun u2' => ?_
      have := h u2'
      rw [Int.gcd_zero_right, Int.natAbs_of_nonneg ha] at this
      exact this
    · have hp : 0 < c := by omega
      refine eu_step hp ba big fun u2' => ?_
      have r0 : 0 ≤ a % c := Int.emod_nonneg _ z
      have r1 : a % c < c := Int.emod_lt_of_pos _ hp
      have g1 : Int.gcd c (a % c) = Int.gcd a c := gcd_mod _ _
      cases m with
      | zero => simp at hb; omega
      | succ m =>
      cases xs with
      | nil => simp at hl
      | cons y ys =>
      by_cases z2 : a % c = 0
      · rw [z2]
        refine eu_end fun o3 => ?_
        have := h o3
        rw [← g1, z2, Int.gcd_zero_right, Int.natAbs_of_nonneg hc] at this
        exact this
      · have hp2 : 0 < a % c := by omega
        have br : B 5000 (a % c) := big.le (by omega)
        refine eu_step hp2 big br fun o3 => ?_
        have s0 : 0 ≤ c % (a % c) := Int.emod_nonneg _ z2
        have g2 : Int.gcd (a % c) (c % (a % c)) = Int.gcd a c := (gcd_mod _ _).trans g1
        have hs : c % (a % c) < 2 ^ m := by
          have s1 : c % (a % c) < a % c := Int.emod_lt_of_pos _ hp2
          have pw : (2 : Int) ^ (m + 1) = 2 * 2 ^ m := by rw [Int.pow_succ, Int.mul_comm]
          by_cases d : a % c < 2 ^ m
          · omega
          · have q1 : 1 ≤ c / (a % c) := (Int.le_ediv_iff_mul_le hp2).mpr (by omega)
            have q2 := Int.emod_add_mul_ediv c (a % c)
            have q3 : (a % c) * 1 ≤ (a % c) * (c / (a % c)) := Int.mul_le_mul_of_nonneg_left q1 r0
            omega
        refine eu m ys (a % c) (c % (a % c)) o3 (by omega) br r0 s0 hs (by simp at hl; omega) fun o4 => ?_
        rw [g2]
        exact h o4
theorem low2_spec {t b : Int} (hb : 0 < b) (bt : B 3000 t) (bb : B 199 b) (h : Q (rf t b) st) : wc (call Ps Gs wfL (k + 1) 28 [.d (.int t), .d (.int b)] st) Q := by
  refine wc_call (d := f_law_lowest) rfl rfl ?_
  dsimp only [f_law_lowest, List.map, List.replicate, HAppend.hAppend, Append.append, List.append, Nat.sub, HSub.hSub, Sub.sub]
  and_intros
  have ha : (0 : Int) ≤ if t < 0 then -t else t := by split <;> omega
  have ba : B 5000 (if t < 0 then -t else t) := (ab_B bt).mono (by decide)
  have b2 : b < 2 ^ 199 := by
    unfold B at bb
    omega
  refine eu 199 _ _ _ _ (by decide) ba ha (Int.le_of_lt hb) b2 (by rw [rng_len]; decide) fun u => ?_
  have e : Int.gcd (if t < 0 then -t else t) b = Int.gcd t b := by
    split
    · exact Int.neg_gcd
    · rfl
  rw [e]
  have g := gcd_pos (t := t) hb
  have gb : (Int.gcd t b : Int) ≤ b := Int.gcd_le_right _ hb
  have dk : divOk (Int.gcd t b : Int) = true := divOk_of (j := 199) (bb.le (by omega)) (by decide) (Int.ne_of_gt g)
  and_intros
  · rw [Int.fdiv_eq_ediv_of_nonneg _ (Int.le_of_lt g), Int.fdiv_eq_ediv_of_nonneg _ (Int.le_of_lt g)]
    exact h
  · exact dk
  · exact dk
theorem cup_spec {ns : List Int} (hl : ns.length ≤ 63) (h : ∀ a b, Q (.own [.int a, .int b]) []) : wc (call Ps Gs wfL (k + 1) 21 [.known ns] []) Q := by
  refine wc_call (d := f_law_cup) rfl rfl ?_
  dsimp only [f_law_cup, List.map, List.replicate, HAppend.hAppend, Append.append, List.append, Nat.sub, HSub.hSub, Sub.sub]
  and_intros
  refine o_addL rfl rfl (by rw [List.length_map]; simp; omega) ?_
  obtain ⟨c, hc⟩ : ∃ c, atD (ns.map PyData.int ++ [.int 0]) 0 = some (.int c) := by
    cases ns with
    | nil => exact ⟨0, at0⟩
    | cons n r => exact ⟨n, at0⟩
  and_intros
  refine o2 (r := .i c) (by show (atD _ 0).map _ = _; rw [hc]; rfl) ?_
  and_intros
  refine c_dec (fun _ => ?_) (fun _ => ?_)
  · and_intros
    exact h _ _
  · and_intros
    exact h _ _
end
end Xp


namespace Xp
open PySem
def isI (x : PyData) : Prop := ∃ u v w : Int, x = .tuple [.int u, .int v, .int w] ∧ (0 ≤ u ∧ u ≤ 100) ∧ (0 ≤ v ∧ v ≤ 100) ∧ (0 ≤ w ∧ w ≤ 100)
def isTl (x : PyData) : Prop := x = .none ∨ isI x
def isRow (n : Nat) (x : PyData) : Prop := ∃ ts, x = .tuple ts ∧ ts.length = n ∧ ∀ t ∈ ts, isTl t
inductive Ed : Str → Prop
  | held : Ed "held"
  | again : Ed "again"
  | back : Ed "back"
inductive Paint : Str → PyData → Prop
  | plain {i : PyData} : isI i → Paint "plain" (.tuple [.str "plain", i])
  | slope {u v w x : Int} {i j : PyData} {e : Str} : u.natAbs ≤ 200 → v.natAbs ≤ 200 → w.natAbs ≤ 200 → x.natAbs ≤ 200 → ¬(u = w ∧ v = x) → isI i → isI j → Ed e → Paint "slope" (.tuple [.str "slope", .tuple [.int u, .int v], .tuple [.int w, .int x], i, j, .str e])
  | rings {u v s : Int} {i j : PyData} {e : Str} : u.natAbs ≤ 200 → v.natAbs ≤ 200 → 1 ≤ s → s ≤ 200 → isI i → isI j → Ed e → Paint "rings" (.tuple [.str "rings", .tuple [.int u, .int v], .int s, i, j, .str e])
  | tiles {s : Int} {n : Nat} {rows : List PyData} : 1 ≤ s → s ≤ 99 → 1 ≤ n → n ≤ 4 → 1 ≤ rows.length → rows.length ≤ 4 → (∀ r ∈ rows, isRow n r) → Paint "tiles" (.tuple [.str "tiles", .int s, .tuple rows])
theorem eqv2 {a b c d : Int} : PyData.eqv (.tuple [.int a, .int b]) (.tuple [.int c, .int d]) = (decide (a = c) && decide (b = d)) := by
  rw [Bool.eq_iff_iff]
  simp [PyData.eqv, PyData.eqvAll]
section
variable {k : Nat} {st : List Cell} {Q : R → List Cell → Prop}
theorem inks_spec {a b : Int} (h : ∀ x a' b', isI x → Q (.w (.d x)) [[.int a', .int b']]) : wc (call Ps Gs wfL (k + 3) 24 [.cell 0] [[.int a, .int b]]) Q := by
  refine wc_call (d := f_law_inks) rfl rfl ?_
  dsimp only [f_law_inks, List.map, List.replicate, HAppend.hAppend, Append.append, List.append, Nat.sub, HSub.hSub, Sub.sub]
  and_intros
  refine wp_lc (fun s => ∃ u a b, s = ⟨[some (.w (.cell 0)), u], [[.int a, .int b]]⟩) (fun _ o => ∃ y, o = some y ∧ ∃ v : Int, y = .int v ∧ 0 ≤ v ∧ v ≤ 100) _ _ _ ⟨_, _, _, rfl⟩ ?turn ?last
  case turn =>
    rintro x - s ⟨u, a, b, rfl⟩
    and_intros
    refine roll_spec (by decide) (by decide) fun r a b h0 h1 => ?_
    and_intros
    refine some_int (p := fun v => 0 ≤ v ∧ v ≤ 100) (fun x hx => ?_) (by simp) (by simp) fun v a b hv => ?_
    · simp only [List.mem_cons, List.not_mem_nil, or_false] at hx
      rcases hx with rfl | rfl | rfl | rfl | rfl | rfl <;> exact ⟨_, rfl, by omega, by omega⟩
    and_intros
    exact ⟨⟨_, rfl, v, rfl, hv⟩, _, _, _, rfl⟩
  case last =>
    rintro r s hr ⟨u, a, b, rfl⟩
    obtain ⟨h1, h2⟩ := rel_all hr
    obtain ⟨x, y, z, rfl⟩ := len3 h1
    obtain ⟨u1, rfl, p1⟩ := h2 x (by simp)
    obtain ⟨u2, rfl, p2⟩ := h2 y (by simp)
    obtain ⟨u3, rfl, p3⟩ := h2 z (by simp)
    and_intros
    exact h _ a b ⟨u1, u2, u3, rfl, p1, p2, p3⟩
theorem point_spec {a b most : Int} (hm : 4 ≤ most) (hm2 : most ≤ 200) (h : ∀ u v a' b', u.natAbs ≤ 200 → v.natAbs ≤ 200 → Q (.t [.int u, .int v]) [[.int a', .int b']]) : wc (call Ps Gs wfL (k + 3) 25 [.cell 0, .d (.int most)] [[.int a, .int b]]) Q := by
  refine wc_call (d := f_law_point) rfl rfl ?_
  dsimp only [f_law_point, List.map, List.replicate, HAppend.hAppend, Append.append, List.append, Nat.sub, HSub.hSub, Sub.sub]
  and_intros
  refine wp_lc (fun s => ∃ u a b, s = ⟨[some (.w (.cell 0)), some (.i most), u], [[.int a, .int b]]⟩) (fun _ o => ∃ y, o = some y ∧ ∃ v : Int, y = .int v ∧ v.natAbs ≤ 200) _ _ _ ⟨_, _, _, rfl⟩ ?turn ?last
  case turn =>
    rintro x - s ⟨u, a, b, rfl⟩
    and_intros
    refine roll_spec (by omega) (by omega) fun r a b h0 h1 => ?_
    and_intros
    refine roll_spec (by decide) (by decide) fun r2 a b h2 h3 => ?_
    and_intros
    refine some_int (p := fun v => v.natAbs ≤ 200) (fun x hx => ?_) (by simp) (by simp) fun v a b hv => ?_
    · simp only [List.mem_cons, List.not_mem_nil, or_false] at hx
      rcases hx with rfl | rfl | rfl | rfl | rfl | rfl | rfl <;> exact ⟨_, rfl, by omega⟩
    and_intros
    exact ⟨⟨_, rfl, v, rfl, hv⟩, _, _, _, rfl⟩
  case last =>
    rintro r s hr ⟨u, a, b, rfl⟩
    obtain ⟨h1, h2⟩ := rel_all hr
    obtain ⟨x, y, rfl⟩ := len2 h1
    obtain ⟨u1, rfl, p1⟩ := h2 x (by simp)
    obtain ⟨u2, rfl, p2⟩ := h2 y (by simp)
    and_intros
    exact h _ _ a b p1 p2
theorem row_spec {a b many : Int} (hm : 0 ≤ many) (hm2 : many ≤ 1000) (h : ∀ ts a' b', (ts.length : Int) = many → (∀ t ∈ ts, isTl t) → Q (.t ts) [[.int a', .int b']]) : wc (call Ps Gs wfL (k + 4) 26 [.cell 0, .d (.int many)] [[.int a, .int b]]) Q := by
  refine wc_call (d := f_law_row) rfl rfl ?_
  dsimp only [f_law_row, List.map, List.replicate, HAppend.hAppend, Append.append, List.append, Nat.sub, HSub.hSub, Sub.sub]
  and_intros
  refine ⟨⟨by omega, by omega⟩, ?_⟩
  refine ⟨by rw [rng_len, decide_eq_true (by omega)]; rfl, ?_⟩
  refine wp_lc (fun s => ∃ u a b, s = ⟨[some (.w (.cell 0)), some (.i many), u], [[.int a, .int b]]⟩) (fun _ o => ∃ y, o = some y ∧ isTl y) _ _ _ ⟨_, _, _, rfl⟩ ?turn ?last
  case turn =>
    rintro x - s ⟨u, a, b, rfl⟩
    and_intros
    refine inks_spec fun x a b hx => ?_
    and_intros
    refine inks_spec fun y a b hy => ?_
    and_intros
    refine some_spec (by simp) (by simp) fun z hz a b => ?_
    and_intros
    refine ⟨⟨_, rfl, ?_⟩, _, _, _, rfl⟩
    simp only [List.mem_cons, List.not_mem_nil, or_false] at hz
    rcases hz with rfl | rfl | rfl
    · exact .inl rfl
    · exact .inr hx
    · exact .inr hy
  case last =>
    rintro r s hr ⟨u, a, b, rfl⟩
    obtain ⟨h1, h2⟩ := rel_all hr
    rw [rng_len] at h1
    and_intros
    exact h _ a b (by omega) h2
theorem edge_mem {x : PyData} (hx : x ∈ [PyData.str "held", .str "again", .str "back"]) : ∃ e, x = .str e ∧ Ed e := by
  simp only [List.mem_cons, List.not_mem_nil, or_false] at hx
  rcases hx with rfl | rfl | rfl
  · exact ⟨_, rfl, .held⟩
  · exact ⟨_, rfl, .again⟩
  · exact ⟨_, rfl, .back⟩
theorem paint_spec {a b : Int} {xs : List PyData} (h0 : 0 < xs.length) (h1 : xs.length < 1000) (hx : ∀ x ∈ xs, x ∈ [PyData.str "plain", .str "slope", .str "rings", .str "tiles"]) (h : ∀ s p a' b', .str s ∈ xs → Paint s p → Q (.w (.d p)) [[.int a', .int b']]) :
    wc (call Ps Gs wfL (k + 5) 27 [.cell 0, .d (.list xs)] [[.int a, .int b]]) Q := by
  refine wc_call (d := f_law_paint) rfl rfl ?_
  dsimp only [f_law_paint, List.map, List.replicate, HAppend.hAppend, Append.append, List.append, Nat.sub, HSub.hSub, Sub.sub]
  and_intros
  refine some_spec h0 h1 fun x hs a b => ?_
  have hm := hx x hs
  simp only [List.mem_cons, List.not_mem_nil, or_false] at hm
  rcases hm with rfl | rfl | rfl | rfl
  · and_intros
    refine inks_spec fun x a b hi => ?_
    and_intros
    exact h _ _ a b hs (.plain hi)
  · and_intros
    refine point_spec (by decide) (by decide) fun u v a b hu hv => ?_
    and_intros
    refine some_spec (by simp) (by simp) fun x he a b => ?_
    obtain ⟨e, rfl, hed⟩ := edge_mem he
    and_intros
    refine point_spec (by decide) (by decide) fun w x a b hw hx2 => ?_
    and_intros
    refine c_no (fun z => ?_) (fun z => ?_)
    · rw [eqv2] at z
      and_intros
      refine inks_spec fun i a b hi => ?_
      and_intros
      refine inks_spec fun j a b hj => ?_
      and_intros
      refine h _ _ a b hs (.slope hu hv hw hx2 ?_ hi hj hed)
      intro ⟨z1, z2⟩
      rw [decide_eq_true z1.symm, decide_eq_true z2.symm] at z
      cases z
    · and_intros
      refine c_dec (fun z2 => ?_) (fun z2 => ?_)
      · and_intros
        refine inks_spec fun i a b hi => ?_
        and_intros
        refine inks_spec fun j a b hj => ?_
        and_intros
        exact h _ _ a b hs (.slope hu hv (by omega) hv (by omega) hi hj hed)
      · and_intros
        refine inks_spec fun i a b hi => ?_
        and_intros
        refine inks_spec fun j a b hj => ?_
        and_intros
        exact h _ _ a b hs (.slope hu hv (by omega) hv (by omega) hi hj hed)
  · and_intros
    refine point_spec (by decide) (by decide) fun u v a b hu hv => ?_
    and_intros
    refine some_spec (by simp) (by simp) fun x he a b => ?_
    obtain ⟨e, rfl, hed⟩ := edge_mem he
    and_intros
    refine roll_spec (by decide) (by decide) fun r a b h2 h3 => ?_
    and_intros
    refine some_int (p := fun v => 1 ≤ v ∧ v ≤ 200) (fun x hx => ?_) (by simp) (by simp) fun s a b hs2 => ?_
    · simp only [List.mem_cons, List.not_mem_nil, or_false] at hx
      rcases hx with rfl | rfl | rfl | rfl | rfl <;> exact ⟨_, rfl, by omega, by omega⟩
    and_intros
    refine inks_spec fun i a b hi => ?_
    and_intros
    refine inks_spec fun j a b hj => ?_
    and_intros
    exact h _ _ a b hs (.rings hu hv hs2.1 hs2.2 hi hj hed)
  · and_intros
    refine roll_spec (by decide) (by decide) fun r a b h2 h3 => ?_
    and_intros
    refine roll_spec (by decide) (by decide) fun r2 a b h4 h5 => ?_
    and_intros
    refine ⟨⟨by omega, by omega⟩, ?_⟩
    refine ⟨by rw [rng_len, decide_eq_true (by omega)]; rfl, ?_⟩
    refine wp_lc (fun s => ∃ u1 u2 u3 u4 u5 a b, s = ⟨[some (.w (.cell 0)), some (.w (.d (.list xs))), some (.s "tiles"), u1, some (.i (1 + r)), u2, u3, u4, u5], [[.int a, .int b]]⟩) (fun _ o => ∃ y, o = some y ∧ isRow (1 + r).toNat y) _ _ _ ⟨_, _, _, _, _, _, _, rfl⟩ ?turn ?last
    case turn =>
      rintro x - s ⟨u1, u2, u3, u4, u5, a, b, rfl⟩
      and_intros
      refine row_spec (by omega) (by omega) fun ts a b hl ht => ?_
      and_intros
      exact ⟨⟨_, rfl, ts, rfl, by omega, ht⟩, _, _, _, _, _, _, _, rfl⟩
    case last =>
      rintro rows s hr ⟨u1, u2, u3, u4, u5, a, b, rfl⟩
      obtain ⟨l1, l2⟩ := rel_all hr
      rw [rng_len] at l1
      and_intros
      refine roll_spec (by decide) (by decide) fun r a b h6 h7 => ?_
      and_intros
      refine some_int (p := fun v => 1 ≤ v ∧ v ≤ 99) (fun x hx => ?_) (by simp) (by simp) fun s a b hs2 => ?_
      · simp only [List.mem_cons, List.not_mem_nil, or_false] at hx
        rcases hx with rfl | rfl | rfl | rfl | rfl <;> exact ⟨_, rfl, by omega, by omega⟩
      and_intros
      exact h _ _ a b hs (.tiles hs2.1 hs2.2 (by omega) (by omega) (by omega) (by omega) l2)
theorem number_spec {a b : Int} (h : ∀ t d a' b', 0 < d → B 100 t → B 80 d → Q (rf t d) [[.int a', .int b']]) : wc (call Ps Gs wfL (k + 3) 29 [.cell 0] [[.int a, .int b]]) Q := by
  refine wc_call (d := f_law_number) rfl rfl ?_
  dsimp only [f_law_number, List.map, List.replicate, HAppend.hAppend, Append.append, List.append, Nat.sub, HSub.hSub, Sub.sub]
  and_intros
  refine roll_spec (by decide) (by decide) fun r a b h1 l1 => ?_
  and_intros
  refine c_dec (fun _ => ?_) (fun _ => ?_)
  · and_intros
    refine roll_spec (by decide) (by decide) fun r1 a b h1 l1 => ?_
    and_intros
    refine some_int (p := fun v => 1 ≤ v ∧ v ≤ 100000000000000000) (fun x hx => ?_) (by simp) (by simp) fun g a b hg => ?_
    · simp only [List.mem_cons, List.not_mem_nil, or_false] at hx
      rcases hx with rfl | rfl | rfl | rfl <;> exact ⟨_, rfl, by decide, by decide⟩
    have l1' : r1 < 1000000 := l1
    refine o_mul rfl rfl (mulOk_l (decide_eq_true (by omega))) ?_
    and_intros
    refine roll_spec (by decide) (by decide) fun r2 a b h2 l2 => ?_
    and_intros
    refine roll_spec (by decide) (by decide) fun r3 a b h3 l3 => ?_
    and_intros
    refine some_int (p := fun v => 1 ≤ v ∧ v ≤ 100000000000000000) (fun x hx => ?_) (by simp) (by simp) fun g2 a b hg2 => ?_
    · simp only [List.mem_cons, List.not_mem_nil, or_false] at hx
      rcases hx with rfl | rfl | rfl <;> exact ⟨_, rfl, by decide, by decide⟩
    have l3' : r3 < 1000000 := l3
    refine o_mul rfl rfl (mulOk_l (decide_eq_true (by omega))) ?_
    and_intros
    have q0 : 0 ≤ r3 * g2 := Int.mul_nonneg h3 (by omega)
    have bb : B 80 (1 + r3 * g2) := ((show B 1 1 by unfold B; decide).add ((show B 20 r3 by unfold B; omega).mul (show B 57 g2 by unfold B; omega))).mono (by decide)
    have bt : B 100 ((r1 - 500000) * g + r2) := (((show B 20 (r1 - 500000) by unfold B; omega).mul (show B 60 g by unfold B; omega)).add (show B 20 r2 by unfold B; omega)).mono (by decide)
    refine low2_spec (by omega) (bt.mono (by decide)) (bb.mono (by decide)) ?_
    and_intros
    exact h _ _ a b (by omega) bt bb
  · and_intros
    refine roll_spec (by decide) (by decide) fun r1 a1 b1 h1 l1 => ?_
    and_intros
    refine roll_spec (by decide) (by decide) fun r2 a2 b2 h2 l2 => ?_
    and_intros
    refine some_int (p := fun v => 1 ≤ v ∧ v ≤ 1000000) (fun x hx => ?_) (by simp) (by simp) fun d a3 b3 hd => ?_
    · have l2' : r2 < 1000000 := l2
      simp only [List.mem_cons, List.not_mem_nil, or_false] at hx
      rcases hx with rfl | rfl | rfl | rfl | rfl | rfl | rfl <;> exact ⟨_, rfl, by omega, by omega⟩
    obtain ⟨d1, d2⟩ := hd
    have bd : B 80 d := Bs (by omega) (by decide)
    and_intros
    refine roll_spec (by decide) (by decide) fun r4 a4 b4 h4 l4 => ?_
    and_intros
    refine c_dec (fun _ => ?_) (fun _ => ?_)
    · and_intros
      refine roll_spec (by decide) (by decide) fun r5 a5 b5 h5 l5 => ?_
      and_intros
      · refine roll_spec (by omega) (by omega) fun r6 a6 b6 h6 l6 => ?_
        have q1 : (r5 - 400) * d ≤ 400 * d := Int.mul_le_mul_of_nonneg_right (by omega) (by omega)
        have q2 : -400 * d ≤ (r5 - 400) * d := Int.mul_le_mul_of_nonneg_right (by omega) (by omega)
        have bt : B 100 ((r5 - 400) * d + r6) := Bs (by omega) (by decide)
        and_intros
        refine low2_spec (by omega) (bt.mono (by decide)) (bd.mono (by decide)) ?_
        and_intros
        exact h _ _ _ _ (by omega) bt bd
      · exact mulOk_l (decide_eq_true (by omega))
    · have bt : B 100 (400 * d) := Bs (by omega) (by decide)
      and_intros
      refine low2_spec (by omega) (bt.mono (by decide)) (bd.mono (by decide)) ?_
      and_intros
      exact h _ _ _ _ (by omega) bt bd
theorem place_spec {a b : Int} (h : ∀ t d u e a' b', 0 < d → B 100 t → B 80 d → 0 < e → B 100 u → B 80 e → Q (.t [fr t d, fr u e]) [[.int a', .int b']]) : wc (call Ps Gs wfL (k + 4) 30 [.cell 0] [[.int a, .int b]]) Q := by
  refine wc_call (d := f_law_place) rfl rfl ?_
  dsimp only [f_law_place, List.map, List.replicate, HAppend.hAppend, Append.append, List.append, Nat.sub, HSub.hSub, Sub.sub]
  and_intros
  refine number_spec fun t d a b h1 h2 h3 => ?_
  and_intros
  refine number_spec fun u e a b h4 h5 h6 => ?_
  and_intros
  exact h _ _ _ _ a b h1 h2 h3 h4 h5 h6
end
end Xp


namespace Xp
open PySem
section
variable {k : Nat} {st : List Cell} {Q : R → List Cell → Prop}
theorem apart_spec {n d m e p q : Int} (hd : 0 < d) (he : 0 < e) (bn : B 200 n) (bd : B 200 d) (bm : B 200 m) (be : B 200 e) (bp : B 64 p) (bq : B 64 q) (h : Q (.t [fr (n * 1 - p * d) (d * 1), fr (m * 1 - q * e) (e * 1)]) st) :
    wc (call Ps Gs wfL (k + 4) 11 [.d (.tuple [fr n d, fr m e]), .d (.tuple [.int p, .int q])] st) Q := by
  refine wc_call (d := f_apart) rfl rfl ?_
  dsimp only [f_apart, List.map, List.replicate, HAppend.hAppend, Append.append, List.append, Nat.sub, HSub.hSub, Sub.sub]
  and_intros
  refine whole_spec ?_
  and_intros
  refine minus_spec hd (by decide) (bn.mono (by decide)) (bd.mono (by decide)) (bp.mono (by decide)) (lit (by decide) rfl) ?_
  and_intros
  refine whole_spec ?_
  and_intros
  refine minus_spec he (by decide) (bm.mono (by decide)) (be.mono (by decide)) (bq.mono (by decide)) (lit (by decide) rfl) ?_
  and_intros
  exact h
/-- a place right and down of a point -/
structure Pl (n d m e p q : Int) : Prop where
  hd : 0 < d
  he : 0 < e
  bn : B 200 n
  bd : B 200 d
  bm : B 200 m
  be : B 200 e
  bp : p.natAbs ≤ 200
  bq : q.natAbs ≤ 200
theorem Pl.b1 {n d m e p q : Int} (P : Pl n d m e p q) : B 300 (n * 1 - p * d) := by
  rw [Int.mul_one]
  exact (P.bn.sub ((show B 8 p by have := P.bp; unfold B; omega).mul P.bd)).mono (by decide)
theorem Pl.b2 {n d m e p q : Int} (P : Pl n d m e p q) : B 300 (m * 1 - q * e) := by
  rw [Int.mul_one]
  exact (P.bm.sub ((show B 8 q by have := P.bq; unfold B; omega).mul P.be)).mono (by decide)
theorem along_spec {n d m e p q u v : Int} {i j ed : PyData} (P : Pl n d m e p q) (bu : u.natAbs ≤ 200) (bv : v.natAbs ≤ 200) (hn : ¬(p = u ∧ q = v)) (hS : 0 < (u - p) * (u - p) + (v - q) * (v - q))
    (h : Q (rf (((n * 1 - p * d) * (u - p) * (e * 1 * 1) + (m * 1 - q * e) * (v - q) * (d * 1 * 1)) * 1) (d * 1 * 1 * (e * 1 * 1) * ((u - p) * (u - p) + (v - q) * (v - q)))) st) :
    wc (call Ps Gs wfL (k + 5) 12 [.d (.tuple [.str "slope", .tuple [.int p, .int q], .tuple [.int u, .int v], i, j, ed]), .d (.tuple [fr n d, fr m e])] st) Q := by
  have bp : B 8 p := by have := P.bp; unfold B; omega
  have bq : B 8 q := by have := P.bq; unfold B; omega
  have bx : B 10 (u - p) := by have := P.bp; unfold B; omega
  have by1 : B 10 (v - q) := by have := P.bq; unfold B; omega
  have bS : B 30 ((u - p) * (u - p) + (v - q) * (v - q)) := ((bx.mul bx).add (by1.mul by1)).mono (by decide)
  have d1 : 0 < d * 1 := by rw [Int.mul_one]; exact P.hd
  have e1 : 0 < e * 1 := by rw [Int.mul_one]; exact P.he
  have d2 : 0 < d * 1 * 1 := by rw [Int.mul_one]; exact d1
  have e2 : 0 < e * 1 * 1 := by rw [Int.mul_one]; exact e1
  have bd1 : B 200 (d * 1) := by rw [Int.mul_one]; exact P.bd
  have be1 : B 200 (e * 1) := by rw [Int.mul_one]; exact P.be
  have bd2 : B 200 (d * 1 * 1) := by rw [Int.mul_one]; exact bd1
  have be2 : B 200 (e * 1 * 1) := by rw [Int.mul_one]; exact be1
  refine wc_call (d := f_along) rfl rfl ?_
  dsimp only [f_along, List.map, List.replicate, HAppend.hAppend, Append.append, List.append, Nat.sub, HSub.hSub, Sub.sub]
  and_intros
  refine apart_spec P.hd P.he P.bn P.bd P.bm P.be (bp.mono (by decide)) (bq.mono (by decide)) ?_
  and_intros
  refine whole_spec ?_
  and_intros
  refine times_spec d1 (by decide) (P.b1.mono (by decide)) (bd1.mono (by decide)) (bx.mono (by decide)) (lit (by decide) rfl) ?_
  and_intros
  refine whole_spec ?_
  and_intros
  refine times_spec e1 (by decide) (P.b2.mono (by decide)) (be1.mono (by decide)) (by1.mono (by decide)) (lit (by decide) rfl) ?_
  and_intros
  refine plus_spec d2 e2 ((P.b1.mul bx).mono (by decide)) (bd2.mono (by decide)) ((P.b2.mul by1).mono (by decide)) (be2.mono (by decide)) ?_
  have bN := ((P.b1.mul bx).mul be2).add ((P.b2.mul by1).mul bd2)
  and_intros
  · refine whole_spec ?_
    and_intros
    refine over_spec (Int.mul_pos d2 e2) (by decide) hS (bN.mono (by decide)) ((bd2.mul be2).mono (by decide)) (bS.mono (by decide)) (lit (by decide) rfl) ?_
    and_intros
    exact h
  · exact mulOk_of bx bx (by decide)
  · exact mulOk_of by1 by1 (by decide)
theorem around_spec {n d m e p q s : Int} {i j ed : PyData} (P : Pl n d m e p q) (h1 : 1 ≤ s) (h2 : s ≤ 200)
    (h : Q (if ab (n * 1 - p * d) * (e * 1) - ab (m * 1 - q * e) * (d * 1) < 0 then rf (ab (m * 1 - q * e) * 1) (e * 1 * s) else rf (ab (n * 1 - p * d) * 1) (d * 1 * s)) st) :
    wc (call Ps Gs wfL (k + 5) 14 [.d (.tuple [.str "rings", .tuple [.int p, .int q], .int s, i, j, ed]), .d (.tuple [fr n d, fr m e])] st) Q := by
  have bp : B 8 p := by have := P.bp; unfold B; omega
  have bq : B 8 q := by have := P.bq; unfold B; omega
  have bs : B 8 s := by unfold B; omega
  have d1 : 0 < d * 1 := by rw [Int.mul_one]; exact P.hd
  have e1 : 0 < e * 1 := by rw [Int.mul_one]; exact P.he
  have bd1 : B 200 (d * 1) := by rw [Int.mul_one]; exact P.bd
  have be1 : B 200 (e * 1) := by rw [Int.mul_one]; exact P.be
  refine wc_call (d := f_around) rfl rfl ?_
  dsimp only [f_around, List.map, List.replicate, HAppend.hAppend, Append.append, List.append, Nat.sub, HSub.hSub, Sub.sub]
  and_intros
  refine apart_spec P.hd P.he P.bn P.bd P.bm P.be (bp.mono (by decide)) (bq.mono (by decide)) ?_
  and_intros
  refine unsign_spec ?_
  and_intros
  refine unsign_spec ?_
  and_intros
  refine compared_spec d1 e1 ((ab_B P.b1).mono (by decide)) (bd1.mono (by decide)) ((ab_B P.b2).mono (by decide)) (be1.mono (by decide)) ?_
  and_intros
  refine c_dec (fun z => ?_) (fun z => ?_)
  · rw [sgn_lt] at z
    rw [if_pos z] at h
    and_intros
    refine whole_spec ?_
    and_intros
    refine over_spec e1 (by decide) (by omega) ((ab_B P.b2).mono (by decide)) (be1.mono (by decide)) (bs.mono (by decide)) (lit (by decide) rfl) ?_
    and_intros
    exact h
  · rw [sgn_lt] at z
    rw [if_neg z] at h
    and_intros
    refine whole_spec ?_
    and_intros
    refine over_spec d1 (by decide) (by omega) ((ab_B P.b1).mono (by decide)) (bd1.mono (by decide)) (bs.mono (by decide)) (lit (by decide) rfl) ?_
    and_intros
    exact h
/-- what the law reckons: a way's top and bottom -/
inductive WayOf : PyData → Int → Int → Int → Int → Int → Int → Prop
  | slope {p q u v n d m e : Int} {i j ed : PyData} : WayOf (.tuple [.str "slope", .tuple [.int p, .int q], .tuple [.int u, .int v], i, j, ed]) n d m e
      ((n * e - p * (d * e)) * (u - p) + (m * d - q * (d * e)) * (v - q)) (d * e * ((u - p) * (u - p) + (v - q) * (v - q)))
  | rings {p q s n d m e : Int} {i j ed : PyData} : WayOf (.tuple [.str "rings", .tuple [.int p, .int q], .int s, i, j, ed]) n d m e
      (if ab (n * e - p * (d * e)) < ab (m * d - q * (d * e)) then ab (m * d - q * (d * e)) else ab (n * e - p * (d * e))) (d * e * s)
theorem sq_pos {x y : Int} (h : ¬(x = 0 ∧ y = 0)) : 0 < x * x + y * y := by
  have nn : ∀ z : Int, 0 ≤ z * z := fun z => by
    rcases Int.le_total 0 z with c | c
    · exact Int.mul_nonneg c c
    · exact Int.mul_nonneg_of_nonpos_of_nonpos c c
  have h1 := nn x
  have h2 := nn y
  have pn : ∀ z : Int, z ≠ 0 → 0 < z * z := fun z hz => by
    rcases Int.lt_or_gt_of_ne hz with c | c
    · exact Int.mul_pos_of_neg_of_neg c c
    · exact Int.mul_pos c c
  by_cases c : x = 0
  · have := pn y fun z => h ⟨c, z⟩
    omega
  · have := pn x c
    omega
theorem way_spec {s : Str} {p : PyData} {n d m e : Int} (hp : Paint s p) (hs : s = "slope" ∨ s = "rings") (hd : 0 < d) (he : 0 < e) (bn : B 200 n) (bd8 : B 80 d) (bm : B 200 m) (be8 : B 80 e)
    (h : ∀ N D, WayOf p n d m e N D → 0 < D → B 500 N → B 199 D → Q (rf N D) st) : wc (call Ps Gs wfL (k + 6) 15 [.d p, .d (.tuple [fr n d, fr m e])] st) Q := by
  have bd := bd8.mono (show 80 ≤ 200 by decide)
  have be := be8.mono (show 80 ≤ 200 by decide)
  have de : 0 < d * e := Int.mul_pos hd he
  refine wc_call (d := f_way_at) rfl rfl ?_
  dsimp only [f_way_at, List.map, List.replicate, HAppend.hAppend, Append.append, List.append, Nat.sub, HSub.hSub, Sub.sub]
  cases hp with
  | plain _ => rcases hs with z | z <;> exact absurd z (by decide)
  | tiles _ _ _ _ _ _ _ => rcases hs with z | z <;> exact absurd z (by decide)
  | @slope u v w x i j ed b1 b2 b3 b4 hne hi hj hed =>
    have hS : 0 < (w - u) * (w - u) + (x - v) * (x - v) := sq_pos (by omega)
    have P : Pl n d m e u v := ⟨hd, he, bn, bd, bm, be, b1, b2⟩
    have bx : B 10 (w - u) := by unfold B; omega
    have by1 : B 10 (x - v) := by unfold B; omega
    have bx9 : B 9 (w - u) := by unfold B; omega
    have by9 : B 9 (x - v) := by unfold B; omega
    have bS : B 30 ((w - u) * (w - u) + (x - v) * (x - v)) := ((bx9.mul bx9).add (by9.mul by9)).mono (by decide)
    have bu : B 8 u := by unfold B; omega
    have bv : B 8 v := by unfold B; omega
    have bN : B 500 ((n * e - u * (d * e)) * (w - u) + (m * d - v * (d * e)) * (x - v)) :=
      ((((bn.mul be).sub (bu.mul (bd.mul be))).mul bx).add (((bm.mul bd).sub (bv.mul (bd.mul be))).mul by1)).mono (by decide)
    and_intros
    refine along_spec P b3 b4 hne hS ?_
    and_intros
    have e0 : fr (((n * 1 - u * d) * (w - u) * (e * 1 * 1) + (m * 1 - v * e) * (x - v) * (d * 1 * 1)) * 1) (d * 1 * 1 * (e * 1 * 1) * ((w - u) * (w - u) + (x - v) * (x - v))) =
        fr ((n * e - u * (d * e)) * (w - u) + (m * d - v * (d * e)) * (x - v)) (d * e * ((w - u) * (w - u) + (x - v) * (x - v))) := by
      simp only [Int.mul_one]
      congr 1
      grind
    unfold rf
    rw [e0]
    exact h _ _ .slope (Int.mul_pos de hS) bN (((bd8.mul be8).mul bS).mono (by decide))
  | @rings u v s i j ed b1 b2 h1 h2 hi hj hed =>
    have P : Pl n d m e u v := ⟨hd, he, bn, bd, bm, be, b1, b2⟩
    have bs : B 8 s := by unfold B; omega
    have bu : B 8 u := by unfold B; omega
    have bv : B 8 v := by unfold B; omega
    have a1 : ab (n * e - u * (d * e)) = ab (n - u * d) * e := by
      have z : n * e - u * (d * e) = (n - u * d) * e := by grind
      rw [z]
      unfold ab
      by_cases c : n - u * d < 0
      · rw [if_pos c, if_pos (Int.mul_neg_of_neg_of_pos c he), Int.neg_mul]
      · rw [if_neg c, if_neg (by have := Int.mul_nonneg (show 0 ≤ n - u * d by omega) (Int.le_of_lt he); omega)]
    have a2 : ab (m * d - v * (d * e)) = ab (m - v * e) * d := by
      have z : m * d - v * (d * e) = (m - v * e) * d := by grind
      rw [z]
      unfold ab
      by_cases c : m - v * e < 0
      · rw [if_pos c, if_pos (Int.mul_neg_of_neg_of_pos c hd), Int.neg_mul]
      · rw [if_neg c, if_neg (by have := Int.mul_nonneg (show 0 ≤ m - v * e by omega) (Int.le_of_lt hd); omega)]
    have bA : B 450 (ab (n * e - u * (d * e))) := ab_B (((bn.mul be).sub (bu.mul (bd.mul be))).mono (by decide))
    have bC : B 450 (ab (m * d - v * (d * e))) := ab_B (((bm.mul bd).sub (bv.mul (bd.mul be))).mono (by decide))
    have w0 := h _ _ (.rings (p := u) (q := v) (s := s) (i := i) (j := j) (ed := .str ed) (n := n) (d := d) (m := m) (e := e)) (Int.mul_pos de (by omega)) (by split <;> first | exact bC.mono (by decide) | exact bA.mono (by decide)) (((bd8.mul be8).mul bs).mono (by decide))
    and_intros
    refine around_spec P h1 h2 ?_
    and_intros
    simp only [Int.mul_one]
    by_cases c : ab (n - u * d) * e - ab (m - v * e) * d < 0
    · rw [if_pos (by rw [a1, a2]; omega)] at w0
      rw [if_pos c]
      unfold rf at *
      rw [fr_eq (M := ab (m * d - v * (d * e))) (E := d * e * s) (Int.mul_pos he (by omega)) (Int.mul_pos de (by omega)) (by rw [a2]; grind)]
      and_intros
      exact w0
    · rw [if_neg (by rw [a1, a2]; omega)] at w0
      rw [if_neg c]
      unfold rf at *
      rw [fr_eq (M := ab (n * e - u * (d * e))) (E := d * e * s) (Int.mul_pos hd (by omega)) (Int.mul_pos de (by omega)) (by rw [a1]; grind)]
      and_intros
      exact w0
theorem way_fun {p : PyData} {n d m e N D M E : Int} (h : WayOf p n d m e N D) (l : WayOf p n d m e M E) : N = M ∧ D = E := by
  cases h <;> cases l <;> exact ⟨rfl, rfl⟩
theorem fr_id {n d : Int} (h : Int.gcd n d = 1) : fr n d = .tuple [.int n, .int d] := by
  show PyData.tuple [.int (lo n d).1, .int (lo n d).2] = _
  rw [lo_id h]
def isPl (x : PyData) : Prop := ∃ n d m e, x = .tuple [.tuple [.int n, .int d], .tuple [.int m, .int e]] ∧ 0 < d ∧ 0 < e ∧ B 100 n ∧ B 80 d ∧ B 100 m ∧ B 80 e ∧ Int.gcd n d = 1 ∧ Int.gcd m e = 1
theorem pl_of {t d u e : Int} (hd : 0 < d) (he : 0 < e) (bt : B 100 t) (bd : B 80 d) (bu : B 100 u) (be : B 80 e) : isPl (.tuple [fr t d, fr u e]) :=
  ⟨_, _, _, _, rfl, lo_pos hd, lo_pos he, lo_B1 hd bt, lo_B2 hd bd, lo_B1 he bu, lo_B2 he be, lo_cop hd, lo_cop he⟩
theorem near_spec {a b : Int} {s : Str} {p : PyData} (hp : Paint s p) (h : ∀ x a' b', isPl x → Q (.w (.d x)) [[.int a', .int b']]) : wc (call Ps Gs wfL (k + 5) 31 [.cell 0, .d p] [[.int a, .int b]]) Q := by
  have turn : ∀ {by0 st0 : Int} {u1 u2 u3 : Option R} {a b : Int}, True := trivial
  refine wc_call (d := f_law_near) rfl rfl ?_
  dsimp only [f_law_near, List.map, List.replicate, HAppend.hAppend, Append.append, List.append, Nat.sub, HSub.hSub, Sub.sub]
  cases hp with
  | plain hi =>
    and_intros
    refine place_spec fun t d u e a b h1 h2 h3 h4 h5 h6 => ?_
    and_intros
    exact h _ a b (pl_of h1 h4 h2 h3 h5 h6)
  | @tiles s n rows h1 h2 h3 h4 h5 h6 h7 =>
    and_intros
    refine wp_lc (fun st => ∃ u1 a b, st = ⟨[some (.w (.cell 0)), some (.w (.d (.tuple [.str "tiles", .int s, .tuple rows]))), some (.t [.int 0, .int 0]), some (.i s), u1], [[.int a, .int b]]⟩) (fun _ o => ∃ y, o = some y ∧ ∃ t d, y = fr t d ∧ 0 < d ∧ B 100 t ∧ B 80 d) [.int 0, .int 1] _ _ ⟨_, _, _, rfl⟩ ?turn ?last
    case turn =>
      rintro x hx st ⟨u1, a, b, rfl⟩
      have hx0 : ∃ j, x = .int j ∧ (j = 0 ∨ j = 1) := by
        simp only [List.mem_cons, List.not_mem_nil, or_false] at hx
        rcases hx with rfl | rfl
        · exact ⟨0, rfl, .inl rfl⟩
        · exact ⟨1, rfl, .inr rfl⟩
      obtain ⟨j, rfl, hj⟩ := hx0
      rcases hj with rfl | rfl <;>
      · and_intros
        refine roll_spec (by decide) (by decide) fun r a b h8 h9 => ?_
        and_intros
        · refine some_int (p := fun v => v.natAbs ≤ 1) (fun x hx => ?_) (by simp) (by simp) fun w a b hw => ?_
          · simp only [List.mem_cons, List.not_mem_nil, or_false] at hx
            rcases hx with rfl | rfl | rfl | rfl <;> exact ⟨_, rfl, by decide⟩
          have q1 : s * (r - 6) ≤ s * 6 := Int.mul_le_mul_of_nonneg_left (by omega) (by omega)
          have q2 : s * (-6) ≤ s * (r - 6) := Int.mul_le_mul_of_nonneg_left (by omega) (by omega)
          have bt : B 100 (2 * 0 + s * (r - 6) + w) := Bs (by omega) (by decide)
          and_intros
          refine low2_spec (by decide) (bt.mono (by decide)) (lit (by decide) rfl) ?_
          and_intros
          exact ⟨⟨_, rfl, _, 2, rfl, by decide, bt, lit (by decide) rfl⟩, _, _, _, rfl⟩
        · exact mulOk_l (decide_eq_true (by omega))
    case last =>
      rintro r st hr ⟨u1, a, b, rfl⟩
      obtain ⟨l1, l2⟩ := rel_all hr
      obtain ⟨x, y, rfl⟩ := len2 l1
      obtain ⟨t, d, rfl, k1, k2, k3⟩ := l2 x (by simp)
      obtain ⟨u, e, rfl, k4, k5, k6⟩ := l2 y (by simp)
      and_intros
      exact h _ a b (pl_of k1 k4 k2 k3 k5 k6)
  | @slope u v w x i j ed b1 b2 b3 b4 hne hi hj hed =>
    and_intros
    generalize hst : (if w - u < 0 then -(w - u) else w - u) + (if x - v < 0 then -(x - v) else x - v) = s at *
    have hs0 : 0 ≤ s ∧ s ≤ 800 := by
      rw [← hst]
      constructor <;> (split <;> split <;> omega)
    refine wp_lc (fun st => ∃ u1 a b, st = ⟨[some (.w (.cell 0)), some (.w (.d (.tuple [.str "slope", .tuple [.int u, .int v], .tuple [.int w, .int x], i, j, .str ed]))), some (.t [.int u, .int v]), some (.i s), u1], [[.int a, .int b]]⟩) (fun _ o => ∃ y, o = some y ∧ ∃ t d, y = fr t d ∧ 0 < d ∧ B 100 t ∧ B 80 d) [.int 0, .int 1] _ _ ⟨_, _, _, rfl⟩ ?turn ?last
    case turn =>
      rintro x hx st ⟨u1, a, b, rfl⟩
      have hx0 : ∃ j, x = .int j ∧ (j = 0 ∨ j = 1) := by
        simp only [List.mem_cons, List.not_mem_nil, or_false] at hx
        rcases hx with rfl | rfl
        · exact ⟨0, rfl, .inl rfl⟩
        · exact ⟨1, rfl, .inr rfl⟩
      obtain ⟨j, rfl, hj⟩ := hx0
      rcases hj with rfl | rfl <;>
      · and_intros
        refine roll_spec (by decide) (by decide) fun r a b h8 h9 => ?_
        and_intros
        · refine some_int (p := fun v => v.natAbs ≤ 1) (fun x hx => ?_) (by simp) (by simp) fun w a b hw => ?_
          · simp only [List.mem_cons, List.not_mem_nil, or_false] at hx
            rcases hx with rfl | rfl | rfl | rfl <;> exact ⟨_, rfl, by decide⟩
          have q1 : s * (r - 6) ≤ s * 6 := Int.mul_le_mul_of_nonneg_left (by omega) (by omega)
          have q2 : s * (-6) ≤ s * (r - 6) := Int.mul_le_mul_of_nonneg_left (by omega) (by omega)
          and_intros
          refine low2_spec (by decide) (Bs (by omega) (by decide)) (lit (by decide) rfl) ?_
          and_intros
          exact ⟨⟨_, rfl, _, 2, rfl, by decide, Bs (by omega) (by decide), lit (by decide) rfl⟩, _, _, _, rfl⟩
        · exact mulOk_l (decide_eq_true (by omega))
    case last =>
      rintro r st hr ⟨u1, a, b, rfl⟩
      obtain ⟨l1, l2⟩ := rel_all hr
      obtain ⟨x, y, rfl⟩ := len2 l1
      obtain ⟨t, d, rfl, k1, k2, k3⟩ := l2 x (by simp)
      obtain ⟨u, e, rfl, k4, k5, k6⟩ := l2 y (by simp)
      and_intros
      exact h _ a b (pl_of k1 k4 k2 k3 k5 k6)
  | @rings u v s i j ed b1 b2 h1 h2 hi hj hed =>
    and_intros
    refine wp_lc (fun st => ∃ u1 a b, st = ⟨[some (.w (.cell 0)), some (.w (.d (.tuple [.str "rings", .tuple [.int u, .int v], .int s, i, j, .str ed]))), some (.t [.int u, .int v]), some (.i s), u1], [[.int a, .int b]]⟩) (fun _ o => ∃ y, o = some y ∧ ∃ t d, y = fr t d ∧ 0 < d ∧ B 100 t ∧ B 80 d) [.int 0, .int 1] _ _ ⟨_, _, _, rfl⟩ ?turn ?last
    case turn =>
      rintro x hx st ⟨u1, a, b, rfl⟩
      have hx0 : ∃ j, x = .int j ∧ (j = 0 ∨ j = 1) := by
        simp only [List.mem_cons, List.not_mem_nil, or_false] at hx
        rcases hx with rfl | rfl
        · exact ⟨0, rfl, .inl rfl⟩
        · exact ⟨1, rfl, .inr rfl⟩
      obtain ⟨j, rfl, hj⟩ := hx0
      rcases hj with rfl | rfl <;>
      · and_intros
        refine roll_spec (by decide) (by decide) fun r a b h8 h9 => ?_
        and_intros
        · refine some_int (p := fun v => v.natAbs ≤ 1) (fun x hx => ?_) (by simp) (by simp) fun w a b hw => ?_
          · simp only [List.mem_cons, List.not_mem_nil, or_false] at hx
            rcases hx with rfl | rfl | rfl | rfl <;> exact ⟨_, rfl, by decide⟩
          have q1 : s * (r - 6) ≤ s * 6 := Int.mul_le_mul_of_nonneg_left (by omega) (by omega)
          have q2 : s * (-6) ≤ s * (r - 6) := Int.mul_le_mul_of_nonneg_left (by omega) (by omega)
          and_intros
          refine low2_spec (by decide) (Bs (by omega) (by decide)) (lit (by decide) rfl) ?_
          and_intros
          exact ⟨⟨_, rfl, _, 2, rfl, by decide, Bs (by omega) (by decide), lit (by decide) rfl⟩, _, _, _, rfl⟩
        · exact mulOk_l (decide_eq_true (by omega))
    case last =>
      rintro r st hr ⟨u1, a, b, rfl⟩
      obtain ⟨l1, l2⟩ := rel_all hr
      obtain ⟨x, y, rfl⟩ := len2 l1
      obtain ⟨t, d, rfl, k1, k2, k3⟩ := l2 x (by simp)
      obtain ⟨u, e, rfl, k4, k5, k6⟩ := l2 y (by simp)
      and_intros
      exact h _ a b (pl_of k1 k4 k2 k3 k5 k6)
theorem law_way_spec {s : Str} {p : PyData} {n d m e : Int} (hp : Paint s p) (hs : s = "slope" ∨ s = "rings") (bn : B 200 n) (bd : B 200 d) (bm : B 200 m) (be : B 200 e)
    (h : ∀ N D, WayOf p n d m e N D → Q (.t [.int N, .int D]) st) : wc (call Ps Gs wfL (k + 1) 32 [.d p, .d (.tuple [.tuple [.int n, .int d], .tuple [.int m, .int e]])] st) Q := by
  refine wc_call (d := f_law_way) rfl rfl ?_
  dsimp only [f_law_way, List.map, List.replicate, HAppend.hAppend, Append.append, List.append, Nat.sub, HSub.hSub, Sub.sub]
  have bde : B 500 (d * e) := (bd.mul be).mono (by decide)
  cases hp with
  | plain _ => rcases hs with z | z <;> exact absurd z (by decide)
  | tiles _ _ _ _ _ _ _ => rcases hs with z | z <;> exact absurd z (by decide)
  | @slope u v w x i j ed b1 b2 b3 b4 hne hi hj hed =>
    have bu : B 8 u := by unfold B; omega
    have bv : B 8 v := by unfold B; omega
    have bx : B 10 (w - u) := by unfold B; omega
    have by1 : B 10 (x - v) := by unfold B; omega
    have bS : B 30 ((w - u) * (w - u) + (x - v) * (x - v)) := ((bx.mul bx).add (by1.mul by1)).mono (by decide)
    and_intros
    · exact h _ _ .slope
    all_goals first | exact mulOk_of bd be (by decide) | exact mulOk_of bn be (by decide) | exact mulOk_of bu bde (by decide) | exact mulOk_of bm bd (by decide) | exact mulOk_of bv bde (by decide) | exact mulOk_of ((bn.mul be).sub (bu.mul bde)) bx (by decide) | exact mulOk_of ((bm.mul bd).sub (bv.mul bde)) by1 (by decide) | exact mulOk_of bx bx (by decide) | exact mulOk_of by1 by1 (by decide) | exact mulOk_of bde bS (by decide)
  | @rings u v s i j ed b1 b2 h1 h2 hi hj hed =>
    have bs : B 8 s := by unfold B; omega
    have bu : B 8 u := by unfold B; omega
    have bv : B 8 v := by unfold B; omega
    and_intros
    · exact h _ _ .rings
    all_goals first | exact mulOk_of bd be (by decide) | exact mulOk_of bn be (by decide) | exact mulOk_of bu bde (by decide) | exact mulOk_of bm bd (by decide) | exact mulOk_of bv bde (by decide) | exact mulOk_of bde bs (by decide)
end
end Xp


namespace Xp
open PySem
theorem ok_strT {s : Str} (h : s = "plain" ∨ s = "slope" ∨ s = "rings" ∨ s = "tiles" ∨ s = "held" ∨ s = "again" ∨ s = "back") : Ok (.str s) 0 65 := by
  have e : ∀ s : Str, (PyData.str s).depth ≤ 0 := fun s => by simp only [PyData.depth]; exact Nat.le_refl _
  rcases h with rfl | rfl | rfl | rfl | rfl | rfl | rfl <;> exact ⟨rfl, rfl, e _, by show (reprText _).length ≤ 65; decide +kernel⟩
theorem ok_I {x : PyData} (h : isI x) : Ok x 1 205 := by
  obtain ⟨u, v, w, rfl, h1, h2, h3⟩ := h
  refine ok_tup (L := 65) (n := 3) (fun y hy => ?_) (by simp)
  simp only [List.mem_cons, List.not_mem_nil, or_false] at hy
  rcases hy with rfl | rfl | rfl <;> exact ok_int (by unfold B; omega)
theorem ok_Tl {x : PyData} (h : isTl x) : Ok x 1 205 := by
  rcases h with rfl | h
  · exact ok_none.mono (by decide) (by decide)
  · exact ok_I h
theorem ok_row {n : Nat} {x : PyData} (h : isRow n x) (hn : n ≤ 6) : Ok x 2 1300 := by
  obtain ⟨ts, rfl, hl, ht⟩ := h
  exact (ok_tup (L := 205) (n := 6) (fun y hy => ok_Tl (ht y hy)) (by omega)).mono (by decide) (by decide)
theorem ok_paint {s : Str} {p : PyData} (h : Paint s p) : Ok p 4 60000 := by
  cases h with
  | plain hi =>
    refine (ok_tup (t := 1) (L := 205) (n := 2) (fun y hy => ?_) (by simp)).mono (by decide) (by decide)
    simp only [List.mem_cons, List.not_mem_nil, or_false] at hy
    rcases hy with rfl | rfl
    · exact (ok_strT (.inl rfl)).mono (by decide) (by decide)
    · exact ok_I hi
  | tiles h1 h2 h3 h4 h5 h6 h7 =>
    refine (ok_tup (t := 3) (L := 8000) (n := 3) (fun y hy => ?_) (by simp)).mono (by decide) (by decide)
    simp only [List.mem_cons, List.not_mem_nil, or_false] at hy
    rcases hy with rfl | rfl | rfl
    · exact (ok_strT (.inr (.inr (.inr (.inl rfl))))).mono (by decide) (by decide)
    · exact (ok_int (by unfold B; omega)).mono (by decide) (by decide)
    · exact (ok_tup (t := 2) (L := 1300) (n := 4) (fun y hy => ok_row (h7 y hy) (by omega)) h6).mono (by decide) (by decide)
  | slope b1 b2 b3 b4 hne hi hj hed =>
    refine (ok_tup (t := 1) (L := 205) (n := 6) (fun y hy => ?_) (by simp)).mono (by decide) (by decide)
    simp only [List.mem_cons, List.not_mem_nil, or_false] at hy
    have pt : ∀ {a b : Int}, a.natAbs ≤ 200 → b.natAbs ≤ 200 → Ok (.tuple [.int a, .int b]) 1 205 := fun {a b} h1 h2 => by
      refine (ok_tup (t := 0) (L := 65) (n := 2) (fun y hy => ?_) (by simp)).mono (by decide) (by decide)
      simp only [List.mem_cons, List.not_mem_nil, or_false] at hy
      rcases hy with rfl | rfl <;> exact ok_int (by unfold B; omega)
    rcases hy with rfl | rfl | rfl | rfl | rfl | rfl
    · exact (ok_strT (.inr (.inl rfl))).mono (by decide) (by decide)
    · exact pt b1 b2
    · exact pt b3 b4
    · exact ok_I hi
    · exact ok_I hj
    · cases hed <;> exact (ok_strT (by simp)).mono (by decide) (by decide)
  | rings b1 b2 h1 h2 hi hj hed =>
    refine (ok_tup (t := 1) (L := 205) (n := 6) (fun y hy => ?_) (by simp)).mono (by decide) (by decide)
    simp only [List.mem_cons, List.not_mem_nil, or_false] at hy
    have pt : ∀ {a b : Int}, a.natAbs ≤ 200 → b.natAbs ≤ 200 → Ok (.tuple [.int a, .int b]) 1 205 := fun {a b} h1 h2 => by
      refine (ok_tup (t := 0) (L := 65) (n := 2) (fun y hy => ?_) (by simp)).mono (by decide) (by decide)
      simp only [List.mem_cons, List.not_mem_nil, or_false] at hy
      rcases hy with rfl | rfl <;> exact ok_int (by unfold B; omega)
    rcases hy with rfl | rfl | rfl | rfl | rfl | rfl
    · exact (ok_strT (.inr (.inr (.inl rfl)))).mono (by decide) (by decide)
    · exact pt b1 b2
    · exact (ok_int (by unfold B; omega)).mono (by decide) (by decide)
    · exact ok_I hi
    · exact ok_I hj
    · cases hed <;> exact (ok_strT (by simp)).mono (by decide) (by decide)
section
variable {k : Nat} {st : List Cell} {Q : R → List Cell → Prop}
theorem tile_spec {s n d m e : Int} {t0 : List PyData} {rest : List PyData} (hs : 1 ≤ s) (hs2 : s ≤ 99) (h0 : 1 ≤ t0.length) (hd : 0 < d) (he : 0 < e) (bn : B 100 n) (bd : B 80 d) (bm : B 100 m) (be : B 80 e)
    (h : Q (.t [.int (n / (d * s) % (t0.length : Int)), .int (m / (e * s) % ((rest.length + 1 : Nat) : Int))]) st) :
    wc (call Ps Gs wfL (k + 5) 19 [.d (.tuple [.str "tiles", .int s, .tuple (.tuple t0 :: rest)]), .d (.tuple [fr n d, fr m e])] st) Q := by
  have bs : B 8 s := by unfold B; omega
  have p1 : 0 < d * s := Int.mul_pos hd (by omega)
  have p2 : 0 < e * s := Int.mul_pos he (by omega)
  refine wc_call (d := f_tile_at) rfl rfl ?_
  dsimp only [f_tile_at, List.map, List.replicate, HAppend.hAppend, Append.append, List.append, Nat.sub, HSub.hSub, Sub.sub]
  and_intros
  refine whole_spec ?_
  and_intros
  refine over_spec hd (by decide) (by omega) (bn.mono (by decide)) (bd.mono (by decide)) (bs.mono (by decide)) (lit (by decide) rfl) ?_
  rw [Int.mul_one]
  and_intros
  refine floor_spec p1 ((bd.mul bs).mono (by decide)) ?_
  and_intros
  · refine over_spec he (by decide) (by omega) (bm.mono (by decide)) (be.mono (by decide)) (bs.mono (by decide)) (lit (by decide) rfl) ?_
    rw [Int.mul_one]
    and_intros
    refine floor_spec p2 ((be.mul bs).mono (by decide)) ?_
    and_intros
    · rw [Int.fmod_eq_emod_of_nonneg _ (by omega), Int.fmod_eq_emod_of_nonneg _ (by omega)]
      exact h
    · simp; omega
  · omega
theorem sub_mod {a b : Int} : a - a / b * b = a % b := by rw [Int.emod_def, Int.mul_comm]
/-- a plain paint, and one of tiles -/
theorem plain_spec {i : PyData} {y : W} (h : Q (.w (.d i)) st) : wc (call Ps Gs wfL (k + 1) 20 [.d (.tuple [.str "plain", i]), y] st) Q := by
  refine wc_call (d := f_paint_at) rfl rfl ?_
  dsimp only [f_paint_at, List.map, List.replicate, HAppend.hAppend, Append.append, List.append, Nat.sub, HSub.hSub, Sub.sub]
  and_intros
  exact h
theorem tiles_spec {s n d m e : Int} {t0 ts : List PyData} {rest : List PyData} {x : PyData} (hs : 1 ≤ s) (hs2 : s ≤ 99) (h0 : 1 ≤ t0.length) (hd : 0 < d) (he : 0 < e) (bn : B 100 n) (bd : B 80 d) (bm : B 100 m) (be : B 80 e)
    (e1 : atD (.tuple t0 :: rest) (m / (e * s) % ((rest.length + 1 : Nat) : Int)) = some (.tuple ts)) (e2 : atD ts (n / (d * s) % (t0.length : Int)) = some x) (h : Q (.w (.d x)) st) :
    wc (call Ps Gs wfL (k + 6) 20 [.d (.tuple [.str "tiles", .int s, .tuple (.tuple t0 :: rest)]), .d (.tuple [fr n d, fr m e])] st) Q := by
  refine wc_call (d := f_paint_at) rfl rfl ?_
  dsimp only [f_paint_at, List.map, List.replicate, HAppend.hAppend, Append.append, List.append, Nat.sub, HSub.hSub, Sub.sub]
  and_intros
  refine tile_spec hs hs2 h0 hd he bn bd bm be ?_
  and_intros
  refine o_ix rfl rfl e1 ?_
  and_intros
  refine o_ix rfl rfl e2 ?_
  and_intros
  exact h
end
end Xp


namespace Xp
open PySem
theorem sgn_gt {a : Int} : (0 < sgn a) = (0 < a) := by
  rcases Int.lt_trichotomy a 0 with h | h | h
  · rw [sgn_neg h]; apply propext; omega
  · subst h; rw [sgn_zero]
  · rw [sgn_pos h]; apply propext; omega
theorem lo_neg {N D : Int} (hD : 0 < D) : ((lo N D).1 < 0) = (N < 0) := by
  have h1 := lo_t (t := N) (b := D)
  have g := gcd_pos (t := N) hD
  apply propext
  constructor
  · intro z
    rw [← h1]
    exact Int.mul_neg_of_neg_of_pos z g
  · intro z
    apply Classical.byContradiction
    intro c
    have := Int.mul_nonneg (show 0 ≤ (lo N D).1 by omega) (Int.le_of_lt g)
    omega
def bk (n d : Int) : Int := if n - n / (2 * d) * (2 * d) ≤ d then n - n / (2 * d) * (2 * d) else 2 * d - (n - n / (2 * d) * (2 * d))
def hd (n d : Int) : Int := if (if 0 < n then n else 0) < d then (if 0 < n then n else 0) else d
inductive Edge : Str → (Int → Int → Int) → Prop
  | held : Edge "held" hd
  | again : Edge "again" fun n d => n - n / d * d
  | back : Edge "back" bk
theorem edge_fun {e : Str} (h : Ed e) : ∃ f, Edge e f := by
  cases h
  · exact ⟨_, .held⟩
  · exact ⟨_, .again⟩
  · exact ⟨_, .back⟩
theorem hd_range {n d : Int} (hd0 : 0 < d) : 0 ≤ hd n d ∧ hd n d ≤ d := by
  unfold hd
  have : 0 ≤ (if 0 < n then n else 0) := by split <;> omega
  generalize (if 0 < n then n else 0) = m at *
  split <;> omega
theorem due_range {e : Str} {f : Int → Int → Int} {n d : Int} (h : Edge e f) (hd0 : 0 < d) : 0 ≤ f n d ∧ f n d ≤ d := by
  have m1 := Int.emod_nonneg n (Int.ne_of_gt hd0)
  have m2 := Int.emod_lt_of_pos n hd0
  have m3 := Int.emod_def n d
  have n1 := Int.emod_nonneg n (show 2 * d ≠ 0 by omega)
  have n2 := Int.emod_lt_of_pos n (show 0 < 2 * d by omega)
  have n3 := Int.emod_def n (2 * d)
  have c1 : d * (n / d) = n / d * d := Int.mul_comm _ _
  have c2 : 2 * d * (n / (2 * d)) = n / (2 * d) * (2 * d) := Int.mul_comm _ _
  cases h with
  | held => exact hd_range hd0
  | again => exact (show 0 ≤ n - n / d * d ∧ n - n / d * d ≤ d from ⟨by omega, by omega⟩)
  | back => constructor <;> (unfold bk; split <;> omega)
section
variable {k : Nat} {st : List Cell} {Q : R → List Cell → Prop}
theorem held_spec {N D : Int} (hD : 0 < D) (bN : B 3000 N) (bD : B 3000 D) (h : Q (rf (hd N D) D) st) : wc (call Ps Gs wfL (k + 3) 17 [.d (fr N D)] st) Q := by
  have one : fr 1 1 = .tuple [.int 1, .int 1] := fr_one
  refine wc_call (d := f_held) rfl rfl ?_
  dsimp only [f_held, List.map, List.replicate, HAppend.hAppend, Append.append, List.append, Nat.sub, HSub.hSub, Sub.sub]
  and_intros
  refine c_dec (fun z => ?_) (fun z => ?_)
  · rw [lo_neg hD] at z
    have e : fr (hd N D) D = fr 0 1 := fr_eq hD (by decide) (by rw [hd, if_neg (by omega : ¬ 0 < N), if_pos hD]; omega)
    unfold rf at h
    rw [e] at h
    and_intros
    refine whole_spec ?_
    and_intros
    exact h
  · rw [lo_neg hD] at z
    and_intros
    rw [← one]
    refine compared_spec hD (by decide) bN bD (lit (by decide) rfl) (lit (by decide) rfl) ?_
    and_intros
    refine c_dec (fun y => ?_) (fun y => ?_)
    · rw [sgn_gt] at y
      have e : fr (hd N D) D = fr 1 1 := fr_eq hD (by decide) (by rw [hd, if_pos (by omega : 0 < N), if_neg (by omega)]; omega)
      unfold rf at h
      rw [e, one] at h
      and_intros
      exact h
    · rw [sgn_gt] at y
      have e : hd N D = N := by
        unfold hd
        split <;> (try split) <;> omega
      rw [e] at h
      and_intros
      exact h
theorem brought_spec {e : Str} {f : Int → Int → Int} {N D : Int} (he : Edge e f) (hD : 0 < D) (bN : B 1000 N) (bD : B 1000 D) (h : Q (rf (f N D) D) st) : wc (call Ps Gs wfL (k + 5) 16 [.d (fr N D), .d (.str e)] st) Q := by
  have one : fr 1 1 = .tuple [.int 1, .int 1] := fr_one
  have p2 : (0 : Int) < D * 2 := by omega
  refine wc_call (d := f_brought) rfl rfl ?_
  dsimp only [f_brought, List.map, List.replicate, HAppend.hAppend, Append.append, List.append, Nat.sub, HSub.hSub, Sub.sub]
  cases he with
  | held =>
    and_intros
    refine held_spec hD (bN.mono (by decide)) (bD.mono (by decide)) ?_
    and_intros
    exact h
  | again =>
    and_intros
    refine floor_spec hD (bD.mono (by decide)) ?_
    and_intros
    refine whole_spec ?_
    and_intros
    refine minus_spec hD (by decide) (bN.mono (by decide)) (bD.mono (by decide)) ((bN.le (Int.natAbs_ediv_le_natAbs N D)).mono (by decide)) (lit (by decide) rfl) ?_
    rw [Int.mul_one, Int.mul_one]
    and_intros
    exact h
  | back =>
    have b2 : B 1002 (D * 2) := (bD.mul (show B 2 2 from by unfold B; decide)).mono (by decide)
    have bq : B 1000 (N / (D * 2)) := bN.le (Int.natAbs_ediv_le_natAbs N _)
    have bq2 : B 1002 (2 * (N / (D * 2))) := (B.mul (show B 2 2 from by unfold B; decide) bq).mono (by decide)
    and_intros
    refine whole_spec ?_
    and_intros
    refine over_spec hD (by decide) (by decide) (bN.mono (by decide)) (bD.mono (by decide)) (lit (by decide) rfl) (lit (by decide) rfl) ?_
    rw [Int.mul_one]
    and_intros
    refine floor_spec p2 (b2.mono (by decide)) ?_
    and_intros
    refine whole_spec ?_
    and_intros
    refine minus_spec hD (by decide) (bN.mono (by decide)) (bD.mono (by decide)) (bq2.mono (by decide)) (lit (by decide) rfl) ?_
    rw [Int.mul_one, Int.mul_one]
    have er : N - 2 * (N / (D * 2)) * D = N - N / (2 * D) * (2 * D) := by
      rw [Int.mul_comm D 2]
      have : 2 * (N / (2 * D)) * D = N / (2 * D) * (2 * D) := by ac_rfl
      rw [this]
    rw [er]
    have n1 := Int.emod_nonneg N (show 2 * D ≠ 0 by omega)
    have n2 := Int.emod_lt_of_pos N (show 0 < 2 * D by omega)
    have n3 := Int.emod_def N (2 * D)
    have n4 : 2 * D * (N / (2 * D)) = N / (2 * D) * (2 * D) := Int.mul_comm _ _
    have hbk : bk N D = if N - N / (2 * D) * (2 * D) ≤ D then N - N / (2 * D) * (2 * D) else 2 * D - (N - N / (2 * D) * (2 * D)) := rfl
    rw [hbk] at h
    generalize hrr : N - N / (2 * D) * (2 * D) = rr at *
    have brr : B 1002 rr := B.le (B.mul (show B 2 2 from by unfold B; decide) bD) (by omega)
    and_intros
    rw [← one]
    refine compared_spec hD (by decide) (brr.mono (by decide)) (bD.mono (by decide)) (lit (by decide) rfl) (lit (by decide) rfl) ?_
    and_intros
    refine c_dec (fun y => ?_) (fun y => ?_)
    · rw [sgn_le] at y
      rw [if_pos (by omega)] at h
      and_intros
      exact h
    · rw [sgn_le] at y
      rw [if_neg (by omega)] at h
      and_intros
      refine whole_spec ?_
      and_intros
      refine minus_spec (by decide) hD (lit (by decide) rfl) (lit (by decide) rfl) (brr.mono (by decide)) (bD.mono (by decide)) ?_
      rw [Int.mul_one, Int.one_mul]
      and_intros
      exact h
theorem ink_spec {N D one other : Int} (hD : 0 < D) (bN : B 900 N) (bD : B 900 D) (h1 : one.natAbs < 1000) (h2 : other.natAbs < 1000) (h : Q (.i ((2 * (one * D + (other - one) * N) + D) / (2 * D))) st) :
    wc (call Ps Gs wfL (k + 4) 18 [.d (.int one), .d (.int other), .d (fr N D)] st) Q := by
  have bo : B 64 (other - one) := by unfold B; omega
  have b1 : B 64 one := by unfold B; omega
  have d1 : 0 < D * 1 := by omega
  refine wc_call (d := f_ink_by) rfl rfl ?_
  dsimp only [f_ink_by, List.map, List.replicate, HAppend.hAppend, Append.append, List.append, Nat.sub, HSub.hSub, Sub.sub]
  and_intros
  refine whole_spec ?_
  and_intros
  refine whole_spec ?_
  and_intros
  refine times_spec hD (by decide) (bN.mono (by decide)) (bD.mono (by decide)) (bo.mono (by decide)) (lit (by decide) rfl) ?_
  rw [Int.mul_one]
  and_intros
  refine plus_spec (by decide) hD (b1.mono (by decide)) (lit (by decide) rfl) ((bN.mul bo).mono (by decide)) (bD.mono (by decide)) ?_
  rw [Int.mul_one, Int.one_mul, Int.mul_comm N]
  and_intros
  refine rounded_spec hD (bD.mono (by decide)) ?_
  and_intros
  exact h
theorem due_spec {e : Str} {f : Int → Int → Int} {n d : Int} (he : Edge e f) (hd0 : 0 < d) (hb : B 1000 n) (hb2 : B 1000 d) (h : Q (.t [.int (f n d), .int d]) st) : wc (call Ps Gs wfL (k + 1) 33 [.d (.tuple [.int n, .int d]), .d (.str e)] st) Q := by
  have p2 : (2 * d : Int) > 0 := by omega
  refine wc_call (d := f_law_brought) rfl rfl ?_
  dsimp only [f_law_brought, List.map, List.replicate, HAppend.hAppend, Append.append, List.append, Nat.sub, HSub.hSub, Sub.sub]
  cases he with
  | held =>
    and_intros
    exact h
  | again =>
    and_intros
    · rw [Int.fdiv_eq_ediv_of_nonneg _ (Int.le_of_lt hd0)]
      exact h
    · exact divOk_of hb2 (by decide) (Int.ne_of_gt hd0)
    · exact mulOk_of (hb.fdiv hd0) hb2 (by decide)
  | back =>
    have b22 : B 1002 (2 * d) := (B.mul (show B 2 2 from by unfold B; decide) hb2).mono (by decide)
    and_intros
    · rw [Int.fdiv_eq_ediv_of_nonneg _ (Int.le_of_lt p2)]
      refine c_dec (fun z => ?_) (fun z => ?_)
      · and_intros
        rw [bk, if_pos z] at h
        exact h
      · and_intros
        rw [bk, if_neg z] at h
        exact h
    · exact divOk_of b22 (by decide) (Int.ne_of_gt p2)
    · exact mulOk_of (hb.fdiv p2) b22 (by decide)
theorem ink2_spec {X d one other : Int} (hd0 : 0 < d) (hb : B 1000 X) (hb2 : B 1000 d) (h1 : one.natAbs < 1000) (h2 : other.natAbs < 1000) (h : Q (.i ((2 * (one * d + (other - one) * X) + d) / (2 * d))) st) :
    wc (call Ps Gs wfL (k + 1) 34 [.d (.int one), .d (.int other), .d (.tuple [.int X, .int d])] st) Q := by
  have p2 : (2 * d : Int) > 0 := by omega
  refine wc_call (d := f_law_ink) rfl rfl ?_
  dsimp only [f_law_ink, List.map, List.replicate, HAppend.hAppend, Append.append, List.append, Nat.sub, HSub.hSub, Sub.sub]
  and_intros
  · rw [Int.fdiv_eq_ediv_of_nonneg _ (Int.le_of_lt p2)]
    exact h
  · exact mulOk_l (decide_eq_true (by omega))
  · exact mulOk_l (decide_eq_true (by omega))
  · exact divOk_of ((B.mul (show B 2 2 from by unfold B; decide) hb2).mono (show 1002 ≤ 8000 by decide)) (by decide) (Int.ne_of_gt p2)
def inkV (a b X d : Int) : Int := (2 * (a * d + (b - a) * X) + d) / (2 * d)
theorem ink_range {a b X d : Int} (hd0 : 0 < d) (h0 : 0 ≤ X) (h1 : X ≤ d) : (if b < a then b else a) ≤ inkV a b X d ∧ inkV a b X d ≤ (if b > a then b else a) := by
  have p2 : (0 : Int) < 2 * d := by omega
  unfold inkV
  have key : ∀ {x y c : Int}, 0 ≤ c → (x ≤ y → x * c ≤ y * c) := fun h0 h => Int.mul_le_mul_of_nonneg_right h h0
  by_cases c : b < a
  · rw [if_pos c, if_neg (by omega)]
    have q1 := key (show 0 ≤ X from h0) (show b - a ≤ 0 by omega)
    have q2 : (b - a) * d ≤ (b - a) * X := by
      have := Int.mul_le_mul_of_nonneg_left h1 (show 0 ≤ a - b by omega)
      have e1 : (a - b) * X = -((b - a) * X) := by rw [← Int.neg_mul]; congr 1; omega
      have e2 : (a - b) * d = -((b - a) * d) := by rw [← Int.neg_mul]; congr 1; omega
      omega
    have e3 : (b - a) * d = b * d - a * d := Int.sub_mul _ _ _
    constructor
    · refine (Int.le_ediv_iff_mul_le p2).mpr ?_
      have e4 : b * (2 * d) = 2 * (b * d) := by ac_rfl
      omega
    · have : (2 * (a * d + (b - a) * X) + d) / (2 * d) < a + 1 := (Int.ediv_lt_iff_lt_mul p2).mpr (by
        have e5 : (a + 1) * (2 * d) = 2 * (a * d) + 2 * d := by grind
        omega)
      omega
  · rw [if_neg c]
    have q2 : (b - a) * X ≤ (b - a) * d := Int.mul_le_mul_of_nonneg_left h1 (by omega)
    have q1 : 0 ≤ (b - a) * X := Int.mul_nonneg (by omega) h0
    have e3 : (b - a) * d = b * d - a * d := Int.sub_mul _ _ _
    have e6 : (if b > a then b else a) = b := by split <;> omega
    rw [e6]
    constructor
    · refine (Int.le_ediv_iff_mul_le p2).mpr ?_
      have e4 : a * (2 * d) = 2 * (a * d) := by ac_rfl
      omega
    · have : (2 * (a * d + (b - a) * X) + d) / (2 * d) < b + 1 := (Int.ediv_lt_iff_lt_mul p2).mpr (by
        have e5 : (b + 1) * (2 * d) = 2 * (b * d) + 2 * d := by grind
        omega)
      omega
def zpW : W → W → Option (List PyData)
  | .d (.list xs), .d (.list ys) => some (zipD xs ys)
  | .d (.tuple xs), .d (.tuple ys) => some (zipD xs ys)
  | _, _ => none
theorem i_zip {cal : Nat → List W → List Cell → Option (R × List Cell)} {G : List PyData} {s : S} {a b : Ex} {Q : List PyData → S → Prop} (h : wp (ev cal G a s) fun x s1 => opF x s1 fun w s1 => wp (ev cal G b s1) fun y s2 => opF y s2 fun u s2 => ∃ xs, zpW w u = some xs ∧ Q xs s2) : wp (evi cal G (.zip a b) s) Q := by
  simp only [evi]
  refine wp_bd2 (wp_mono h fun x s1 ⟨w, e, h1⟩ => wp_on e (wp_bd2 (wp_mono h1 fun y s2 ⟨u, e2, xs, e3, k⟩ => wp_on e2 (wp_on1 ?_ k))))
  rw [← e3]
  cases w with
  | d x => cases x <;> (cases u with
    | d y => cases y <;> rfl
    | _ => rfl)
  | _ => cases u <;> rfl
theorem ramp_parts {s : Str} {p : PyData} (hp : Paint s p) (hs : s = "slope" ∨ s = "rings") : ∃ x1 x2 i j e, p = .tuple [.str s, x1, x2, i, j, .str e] ∧ isI i ∧ isI j ∧ Ed e := by
  cases hp with
  | plain _ => rcases hs with z | z <;> exact absurd z (by decide)
  | tiles _ _ _ _ _ _ _ => rcases hs with z | z <;> exact absurd z (by decide)
  | slope _ _ _ _ _ hi hj he => exact ⟨_, _, _, _, _, rfl, hi, hj, he⟩
  | rings _ _ _ _ hi hj he => exact ⟨_, _, _, _, _, rfl, hi, hj, he⟩
theorem ramp_spec {s e0 : Str} {x1 x2 : PyData} {a1 a2 a3 b1 b2 b3 n d m e : Int} {f : Int → Int → Int} (hp : Paint s (.tuple [.str s, x1, x2, .tuple [.int a1, .int a2, .int a3], .tuple [.int b1, .int b2, .int b3], .str e0])) (hs : s = "slope" ∨ s = "rings") (hf : Edge e0 f)
    (ha1 : a1.natAbs < 1000) (ha2 : a2.natAbs < 1000) (ha3 : a3.natAbs < 1000) (hb1 : b1.natAbs < 1000) (hb2 : b2.natAbs < 1000) (hb3 : b3.natAbs < 1000) (hd : 0 < d) (he : 0 < e) (bn : B 200 n) (bd : B 80 d) (bm : B 200 m) (be : B 80 e)
    (h : ∀ N D, WayOf (.tuple [.str s, x1, x2, .tuple [.int a1, .int a2, .int a3], .tuple [.int b1, .int b2, .int b3], .str e0]) n d m e N D → 0 < D → B 199 D → Q (.t [.int (inkV a1 b1 (f N D) D), .int (inkV a2 b2 (f N D) D), .int (inkV a3 b3 (f N D) D)]) st) :
    wc (call Ps Gs wfL (k + 8) 20 [.d (.tuple [.str s, x1, x2, .tuple [.int a1, .int a2, .int a3], .tuple [.int b1, .int b2, .int b3], .str e0]), .d (.tuple [fr n d, fr m e])] st) Q := by
  refine wc_call (d := f_paint_at) rfl rfl ?_
  dsimp only [f_paint_at, List.map, List.replicate, HAppend.hAppend, Append.append, List.append, Nat.sub, HSub.hSub, Sub.sub]
  rcases hs with rfl | rfl <;>
  · and_intros
    refine way_spec hp (by simp) hd he bn bd bm be fun N D w hD bN bD => ?_
    have w0 := h N D w hD bD
    obtain ⟨r0, r1⟩ := due_range (n := N) hf hD
    have bX : B 900 (f N D) := (B.le bD (by omega)).mono (by decide)
    and_intros
    refine brought_spec hf hD (bN.mono (by decide)) (bD.mono (by decide)) ?_
    generalize f N D = X at *
    and_intros
    apply i_zip
    and_intros
    apply c_c
    and_intros
    refine ink_spec hD bX (bD.mono (by decide)) (by assumption) (by assumption) ?_
    and_intros
    apply c_c
    and_intros
    refine ink_spec hD bX (bD.mono (by decide)) (by assumption) (by assumption) ?_
    and_intros
    apply c_c
    and_intros
    refine ink_spec hD bX (bD.mono (by decide)) (by assumption) (by assumption) ?_
    and_intros
    apply c_n
    and_intros
    exact w0
theorem shown_spec {s e0 : Str} {x1 x2 : PyData} {a1 a2 a3 b1 b2 b3 n d m e N D : Int} {f : Int → Int → Int} (hp : Paint s (.tuple [.str s, x1, x2, .tuple [.int a1, .int a2, .int a3], .tuple [.int b1, .int b2, .int b3], .str e0])) (hs : s = "slope" ∨ s = "rings") (hf : Edge e0 f)
    (ha1 : a1.natAbs < 1000) (ha2 : a2.natAbs < 1000) (ha3 : a3.natAbs < 1000) (hb1 : b1.natAbs < 1000) (hb2 : b2.natAbs < 1000) (hb3 : b3.natAbs < 1000) (bn : B 200 n) (bd : B 80 d) (bm : B 200 m) (be : B 80 e)
    (w : WayOf (.tuple [.str s, x1, x2, .tuple [.int a1, .int a2, .int a3], .tuple [.int b1, .int b2, .int b3], .str e0]) n d m e N D) (hD : 0 < D) (bN : B 500 N) (bD : B 199 D)
    (h : Q (.t [.int (inkV a1 b1 (f N D) D), .int (inkV a2 b2 (f N D) D), .int (inkV a3 b3 (f N D) D)]) st) :
    wc (call Ps Gs wfL (k + 3) 35 [.d (.tuple [.str s, x1, x2, .tuple [.int a1, .int a2, .int a3], .tuple [.int b1, .int b2, .int b3], .str e0]), .d (.tuple [.tuple [.int n, .int d], .tuple [.int m, .int e]])] st) Q := by
  obtain ⟨r0, r1⟩ := due_range (n := N) hf hD
  have bX : B 1000 (f N D) := (B.le bD (by omega)).mono (by decide)
  refine wc_call (d := f_law_shown) rfl rfl ?_
  dsimp only [f_law_shown, List.map, List.replicate, HAppend.hAppend, Append.append, List.append, Nat.sub, HSub.hSub, Sub.sub]
  rcases hs with rfl | rfl <;>
  · and_intros
    refine law_way_spec hp (by simp) bn (bd.mono (by decide)) bm (be.mono (by decide)) fun N' D' w' => ?_
    obtain ⟨rfl, rfl⟩ := way_fun w w'
    and_intros
    refine due_spec hf hD (bN.mono (by decide)) (bD.mono (by decide)) ?_
    and_intros
    apply c_c
    and_intros
    refine ink2_spec hD bX (bD.mono (by decide)) (by assumption) (by assumption) ?_
    and_intros
    apply c_c
    and_intros
    refine ink2_spec hD bX (bD.mono (by decide)) (by assumption) (by assumption) ?_
    and_intros
    apply c_c
    and_intros
    refine ink2_spec hD bX (bD.mono (by decide)) (by assumption) (by assumption) ?_
    and_intros
    apply c_n
    and_intros
    exact h
end
end Xp


namespace Xp
open PySem
section
variable {k : Nat} {st : List Cell} {Q : R → List Cell → Prop}
theorem sel3 {x : PyData} (hx : x ∈ rngD 0 (3 : Int).toNat) : x = .int 0 ∨ x = .int 1 ∨ x = .int 2 := by
  have e : rngD 0 (3 : Int).toNat = [.int 0, .int 1, .int 2] := rfl
  rw [e] at hx
  simpa using hx
theorem shown_plain {i : PyData} {y : W} (h : Q (.w (.d i)) st) : wc (call Ps Gs wfL (k + 1) 35 [.d (.tuple [.str "plain", i]), y] st) Q := by
  refine wc_call (d := f_law_shown) rfl rfl ?_
  dsimp only [f_law_shown, List.map, List.replicate, HAppend.hAppend, Append.append, List.append, Nat.sub, HSub.hSub, Sub.sub]
  and_intros
  exact h
theorem shown_tiles {s n d m e : Int} {t0 ts : List PyData} {rest : List PyData} {x : PyData} (hs : 1 ≤ s) (hs2 : s ≤ 99) (h0 : 1 ≤ t0.length) (h4 : t0.length ≤ 4) (h5 : rest.length ≤ 3) (hd : 0 < d) (he : 0 < e) (bn : B 100 n) (bd : B 80 d) (bm : B 100 m) (be : B 80 e)
    (e1 : atD (.tuple t0 :: rest) (m / (e * s) % ((rest.length + 1 : Nat) : Int)) = some (.tuple ts)) (e2 : atD ts (n / (d * s) % (t0.length : Int)) = some x) (h : Q (.w (.d x)) st) :
    wc (call Ps Gs wfL (k + 1) 35 [.d (.tuple [.str "tiles", .int s, .tuple (.tuple t0 :: rest)]), .d (.tuple [.tuple [.int n, .int d], .tuple [.int m, .int e]])] st) Q := by
  have bs : B 8 s := by unfold B; omega
  have p1 : 0 < d * s := Int.mul_pos hd (by omega)
  have p2 : 0 < e * s := Int.mul_pos he (by omega)
  have sm1 : n.fdiv (d * s) - (n.fdiv (d * s)).fdiv (t0.length : Int) * (t0.length : Int) = n / (d * s) % (t0.length : Int) := by
    rw [Int.fdiv_eq_ediv_of_nonneg _ (Int.le_of_lt p1), Int.fdiv_eq_ediv_of_nonneg _ (by omega)]
    exact sub_mod
  have sm2 : m.fdiv (e * s) - (m.fdiv (e * s)).fdiv ((PyData.tuple t0 :: rest).length : Int) * ((PyData.tuple t0 :: rest).length : Int) = m / (e * s) % ((rest.length + 1 : Nat) : Int) := by
    rw [Int.fdiv_eq_ediv_of_nonneg _ (Int.le_of_lt p2), Int.fdiv_eq_ediv_of_nonneg _ (by omega)]
    exact sub_mod
  have bl1 : B 10 (t0.length : Int) := by unfold B; omega
  have bl2 : B 10 ((PyData.tuple t0 :: rest).length : Int) := by unfold B; simp; omega
  refine wc_call (d := f_law_shown) rfl rfl ?_
  dsimp only [f_law_shown, List.map, List.replicate, HAppend.hAppend, Append.append, List.append, Nat.sub, HSub.hSub, Sub.sub]
  and_intros
  · refine o_ix rfl rfl (by rw [sm2]; exact e1) ?_
    and_intros
    · refine o_ix rfl rfl (by rw [sm1]; exact e2) ?_
      and_intros
      exact h
    all_goals first | exact mulOk_of bd bs (by decide) | exact mulOk_of be bs (by decide) | exact divOk_of (bd.mul bs) (by decide) (Int.ne_of_gt p1) | exact divOk_of (be.mul bs) (by decide) (Int.ne_of_gt p2) | exact divOk_of bl1 (by decide) (by omega) | exact divOk_of bl2 (by decide) (by simp; omega) | exact mulOk_r (decide_eq_true (by omega)) | exact mulOk_r (decide_eq_true (by simp; omega))
  all_goals first | exact mulOk_of bd bs (by decide) | exact mulOk_of be bs (by decide) | exact divOk_of (bd.mul bs) (by decide) (Int.ne_of_gt p1) | exact divOk_of (be.mul bs) (by decide) (Int.ne_of_gt p2) | exact divOk_of bl1 (by decide) (by omega) | exact divOk_of bl2 (by decide) (by simp; omega) | exact mulOk_r (decide_eq_true (by omega)) | exact mulOk_r (decide_eq_true (by simp; omega))
theorem law_ok {ns : List Int} (hl : ns.length ≤ 63) : wc (call Ps Gs wfL (k + 11) 36 [.known ns] []) (fun r _ => r = .b true) := by
  refine wc_call (d := f_law) rfl rfl ?_
  dsimp only [f_law, List.map, List.replicate, HAppend.hAppend, Append.append, List.append, Nat.sub, HSub.hSub, Sub.sub]
  and_intros
  refine cup_spec hl fun a b => ?_
  and_intros
  refine wp_loop (fun s => ∃ u2 u3 u4 u5 u6 u7 u8 u9 a b, s = ⟨[some (.w (.known ns)), some (.w (.cell 0)), u2, u3, u4, u5, u6, u7, u8, u9], [[.int a, .int b]]⟩) _ _ ⟨_, _, _, _, _, _, _, _, _, _, rfl⟩ ?turn ?last
  case last =>
    rintro s ⟨u2, u3, u4, u5, u6, u7, u8, u9, a, b, rfl⟩
    and_intros
    rfl
  case turn =>
    rintro x - s ⟨u2, u3, u4, u5, u6, u7, u8, u9, a, b, rfl⟩
    and_intros
    refine paint_spec (by simp) (by simp) (fun x hx => ?_) fun s p a b hs hp => ?_
    · simp only [List.mem_cons, List.not_mem_nil, or_false] at hx
      rcases hx with rfl | rfl | rfl | rfl | rfl | rfl <;> simp
    have okp := (ok_paint hp).ok (by decide) (by decide)
    and_intros
    · refine wp_loop (fun s => ∃ u2 u5 u6 u7 u8 u9 a b, s = ⟨[some (.w (.known ns)), some (.w (.cell 0)), u2, some (.w (.d p)), some (.s p.shown), u5, u6, u7, u8, u9], [[.int a, .int b]]⟩) _ _ ⟨_, _, _, _, _, _, _, _, rfl⟩ ?one ?fine
      case fine =>
        rintro s ⟨u2, u5, u6, u7, u8, u9, a, b, rfl⟩
        and_intros
        exact ⟨.inl rfl, _, _, _, _, _, _, _, _, _, _, rfl⟩
      case one =>
        rintro x - s ⟨u2, u5, u6, u7, u8, u9, a, b, rfl⟩
        and_intros
        refine place_spec fun t d u e a b h1 h2 h3 h4 h5 h6 => ?_
        and_intros
        refine near_spec hp fun x a b hx => ?_
        and_intros
        refine some_spec (by simp) (by simp) fun y hy a b => ?_
        have hpl : isPl y := by
          simp only [List.mem_cons, List.not_mem_nil, or_false] at hy
          rcases hy with rfl | rfl
          · exact pl_of h1 h4 h2 h3 h5 h6
          · exact hx
        obtain ⟨n, d, m, e, rfl, hd, he, bn, bd, bm, be, g1, g2⟩ := hpl
        by_cases hs2 : s = "slope" ∨ s = "rings"
        · obtain ⟨x1, x2, i, j, e0, rfl, hi, hj, hed⟩ := ramp_parts hp hs2
          obtain ⟨a1, a2, a3, rfl, p1, p2, p3⟩ := hi
          obtain ⟨b1, b2, b3, rfl, q1, q2, q3⟩ := hj
          obtain ⟨f, hf⟩ := edge_fun hed
          and_intros
          obtain ⟨r0, st0, e00, N, D, w, hD, bN, bD⟩ := way_spec (k := 0) (st := []) (Q := fun _ _ => ∃ N D, WayOf _ n d m e N D ∧ 0 < D ∧ B 500 N ∧ B 199 D) hp hs2 hd he (bn.mono (by decide)) bd (bm.mono (by decide)) be fun N D w h1 h2 h3 => ⟨N, D, w, h1, h2, h3⟩
          obtain ⟨r0, r1⟩ := due_range (n := N) hf hD
          have oki : ∀ {a b : Int}, (0 ≤ a ∧ a ≤ 100) → (0 ≤ b ∧ b ≤ 100) → 0 ≤ inkV a b (f N D) D ∧ inkV a b (f N D) D ≤ 100 := fun {a b} h1 h2 => by
            obtain ⟨z1, z2⟩ := ink_range (a := a) (b := b) hD r0 r1
            constructor
            · refine Int.le_trans ?_ z1
              split <;> omega
            · refine Int.le_trans z2 ?_
              split <;> omega
          have okv : showOk (.tuple [.int (inkV a1 b1 (f N D) D), .int (inkV a2 b2 (f N D) D), .int (inkV a3 b3 (f N D) D)]) = true := (ok_I ⟨_, _, _, rfl, oki p1 q1, oki p2 q2, oki p3 q3⟩).ok (by decide) (by decide)
          refine shown_spec hp hs2 hf (by omega) (by omega) (by omega) (by omega) (by omega) (by omega) (bn.mono (by decide)) bd (bm.mono (by decide)) be w hD bN bD ?_
          and_intros
          rw [← fr_id g1, ← fr_id g2]
          refine ramp_spec hp hs2 hf (by omega) (by omega) (by omega) (by omega) (by omega) (by omega) hd he (bn.mono (by decide)) bd (bm.mono (by decide)) be fun N' D' w' _ _ => ?_
          obtain ⟨rfl, rfl⟩ := way_fun w w'
          and_intros
          · refine ramp_spec hp hs2 hf (by omega) (by omega) (by omega) (by omega) (by omega) (by omega) hd he (bn.mono (by decide)) bd (bm.mono (by decide)) be fun N' D' w' _ _ => ?_
            obtain ⟨rfl, rfl⟩ := way_fun w w'
            and_intros
            · have s1 := ink_range (a := a1) (b := b1) hD r0 r1
              have s2 := ink_range (a := a2) (b := b2) hD r0 r1
              have s3 := ink_range (a := a3) (b := b3) hD r0 r1
              rcases hs2 with rfl | rfl
              · and_intros
                · refine wp_loop (fun s => ∃ u2 u5 u6 u7 u9 a b, s = ⟨[some (.w (.known ns)), some (.w (.cell 0)), u2, some (.w (.d (.tuple [.str "slope", x1, x2, .tuple [.int a1, .int a2, .int a3], .tuple [.int b1, .int b2, .int b3], .str e0]))), some (.s (PyData.shown (.tuple [.str "slope", x1, x2, .tuple [.int a1, .int a2, .int a3], .tuple [.int b1, .int b2, .int b3], .str e0]))), u5, u6, u7, some (.w (.d (.tuple [.int (inkV a1 b1 (f N D) D), .int (inkV a2 b2 (f N D) D), .int (inkV a3 b3 (f N D) D)]))), u9], [[.int a, .int b]]⟩) _ _ ⟨_, _, _, _, _, _, _, rfl⟩ ?ink ?done
                  case done =>
                    rintro s ⟨u2, u5, u6, u7, u9, a, b, rfl⟩
                    and_intros
                    exact ⟨.inl rfl, _, _, _, _, _, _, _, _, rfl⟩
                  case ink =>
                    rintro x hx s ⟨u2, u5, u6, u7, u9, a, b, rfl⟩
                    rcases sel3 hx with rfl | rfl | rfl
                    · and_intros
                      refine c_dec (fun _ => ?_) (fun z => absurd s1.1 z)
                      and_intros
                      refine c_fl (by rw [decide_eq_true s1.2]; rfl) ?_
                      and_intros
                      exact ⟨.inl rfl, _, _, _, _, _, _, _, rfl⟩
                    · and_intros
                      refine c_dec (fun _ => ?_) (fun z => absurd s2.1 z)
                      and_intros
                      refine c_fl (by rw [decide_eq_true s2.2]; rfl) ?_
                      and_intros
                      exact ⟨.inl rfl, _, _, _, _, _, _, _, rfl⟩
                    · and_intros
                      refine c_dec (fun _ => ?_) (fun z => absurd s3.1 z)
                      and_intros
                      refine c_fl (by rw [decide_eq_true s3.2]; rfl) ?_
                      and_intros
                      exact ⟨.inl rfl, _, _, _, _, _, _, _, rfl⟩
                all_goals first | exact okp | exact okv
              · and_intros
                · refine wp_loop (fun s => ∃ u2 u5 u6 u7 u9 a b, s = ⟨[some (.w (.known ns)), some (.w (.cell 0)), u2, some (.w (.d (.tuple [.str "rings", x1, x2, .tuple [.int a1, .int a2, .int a3], .tuple [.int b1, .int b2, .int b3], .str e0]))), some (.s (PyData.shown (.tuple [.str "rings", x1, x2, .tuple [.int a1, .int a2, .int a3], .tuple [.int b1, .int b2, .int b3], .str e0]))), u5, u6, u7, some (.w (.d (.tuple [.int (inkV a1 b1 (f N D) D), .int (inkV a2 b2 (f N D) D), .int (inkV a3 b3 (f N D) D)]))), u9], [[.int a, .int b]]⟩) _ _ ⟨_, _, _, _, _, _, _, rfl⟩ ?ink ?done
                  case done =>
                    rintro s ⟨u2, u5, u6, u7, u9, a, b, rfl⟩
                    and_intros
                    exact ⟨.inl rfl, _, _, _, _, _, _, _, _, rfl⟩
                  case ink =>
                    rintro x hx s ⟨u2, u5, u6, u7, u9, a, b, rfl⟩
                    rcases sel3 hx with rfl | rfl | rfl
                    · and_intros
                      refine c_dec (fun _ => ?_) (fun z => absurd s1.1 z)
                      and_intros
                      refine c_fl (by rw [decide_eq_true s1.2]; rfl) ?_
                      and_intros
                      exact ⟨.inl rfl, _, _, _, _, _, _, _, rfl⟩
                    · and_intros
                      refine c_dec (fun _ => ?_) (fun z => absurd s2.1 z)
                      and_intros
                      refine c_fl (by rw [decide_eq_true s2.2]; rfl) ?_
                      and_intros
                      exact ⟨.inl rfl, _, _, _, _, _, _, _, rfl⟩
                    · and_intros
                      refine c_dec (fun _ => ?_) (fun z => absurd s3.1 z)
                      and_intros
                      refine c_fl (by rw [decide_eq_true s3.2]; rfl) ?_
                      and_intros
                      exact ⟨.inl rfl, _, _, _, _, _, _, _, rfl⟩
                all_goals first | exact okp | exact okv
            all_goals first | exact okp | exact okv
          all_goals first | exact okp | exact okv
        · cases hp with
          | slope _ _ _ _ _ _ _ _ => exact absurd (.inl rfl) hs2
          | rings _ _ _ _ _ _ _ => exact absurd (.inr rfl) hs2
          | plain hi =>
            have oki := (ok_I hi).ok (by decide) (by decide)
            and_intros
            refine shown_plain ?_
            and_intros
            refine plain_spec ?_
            and_intros
            · refine plain_spec ?_
              and_intros
              · exact ⟨.inl rfl, _, _, _, _, _, _, _, _, rfl⟩
              all_goals first | exact oki | exact okp
            all_goals first | exact oki | exact okp
          | @tiles s w rows q1 q2 q3 q4 q5 q6 q7 =>
            cases rows with
            | nil => simp at q5
            | cons r0 rest =>
            obtain ⟨t0, rfl, l0, ht0⟩ := q7 r0 List.mem_cons_self
            have p1 : 0 < d * s := Int.mul_pos hd (by omega)
            have p2 : 0 < e * s := Int.mul_pos he (by omega)
            have c1 : 0 ≤ n / (d * s) % (t0.length : Int) ∧ n / (d * s) % (t0.length : Int) < (t0.length : Int) := ⟨Int.emod_nonneg _ (by omega), Int.emod_lt_of_pos _ (by omega)⟩
            have c2 : 0 ≤ m / (e * s) % ((rest.length + 1 : Nat) : Int) ∧ m / (e * s) % ((rest.length + 1 : Nat) : Int) < ((rest.length + 1 : Nat) : Int) := ⟨Int.emod_nonneg _ (by omega), Int.emod_lt_of_pos _ (by omega)⟩
            obtain ⟨row, hrow, e1⟩ := at_ok (xs := .tuple t0 :: rest) c2.1 c2.2
            obtain ⟨ts, rfl, lts, htl⟩ := q7 row hrow
            obtain ⟨x, hx, e2⟩ := at_ok (xs := ts) c1.1 (by rw [lts, ← l0]; exact c1.2)
            have okx := (ok_Tl (htl x hx)).ok (by decide) (by decide)
            and_intros
            refine shown_tiles q1 q2 (by omega) (by omega) (by simp at q6; omega) hd he bn bd bm be e1 e2 ?_
            and_intros
            rw [← fr_id g1, ← fr_id g2]
            refine tiles_spec q1 q2 (by omega) hd he bn bd bm be e1 e2 ?_
            and_intros
            · refine tiles_spec q1 q2 (by omega) hd he bn bd bm be e1 e2 ?_
              and_intros
              · exact ⟨.inl rfl, _, _, _, _, _, _, _, _, rfl⟩
              all_goals first | exact okx | exact okp
            all_goals first | exact okx | exact okp
    · exact okp
theorem law_end {ns : List Int} (hl : ns.length ≤ 63) : wc (call (Ds.map (·.df)) Gs wfL 60 36 [.known ns] []) (fun r _ => r = .b true) := law_ok (k := 49) hl
end
end Xp


namespace Xp
open PySem PySem.Spec PyProof.Rows L2
theorem hev : ∀ ns : List Int, ns.length ≤ 63 → ∃ st', call (Ds.map (·.df)) Gs wfL 60 36 [.known ns] [] = some (.w (.d (.bool true)), st') := fun ns hl => by
  obtain ⟨r, st, e, rfl⟩ := law_end hl
  exact ⟨st, e⟩
end Xp
open PySem PySem.W PySem.Calls PyProof.Rows
theorem PySem.Challenge.cw_exactpaint_k47_whole_paints_shown_holds : PySem.Challenge.rw_exactpaint_k47_whole_paints_shown.Holds := by
  w_on; o_law
  refine HandSHeadRun.head_imp (r := OpenLaw.row PySem.Challenge.rw_exactpaint_k47_whole_paints_shown) (q := view (OpenLaw.row PySem.Challenge.rw_exactpaint_k47_whole_paints_shown).prog [0, 45]) (H := Xp.hk) (ob := Xp.ob) (M := 20000) (loose := Xp.loose0 ++ Xp.loose1) (d := HandSHeadRun.topDef (OpenLaw.row PySem.Challenge.rw_exactpaint_k47_whole_paints_shown).prog 45) (kwd := []) Xp.ob_eq
    Xp.runs_top (by kernel_rfl) (by kernel_rfl) (by kernel_rfl) (by rfl) (by first | assumption | decide +kernel) (by decide +kernel) ⟨rfl, rfl, rfl, rfl, rfl, by decide +kernel⟩ ?hw ?hc
  case hw => w_witness2
  case hc =>
    refine Xp.end_walk (l := PySem.Challenge.rw_exactpaint_k47_whole_paints_shown) (n := 63) (k := 60) (x := "script") rfl (by decide) (by kernel_rfl) ⟨rfl, by decide, by decide⟩ ?F
    intro w mg fa h Y G hmg0
    obtain ⟨K, KX, e, c⟩ := Y
    have hmg : mg ("law" : PySem.Str) = some (.ref fa) := by
      have e : (HandSHeadRun.topDef (OpenLaw.row PySem.Challenge.rw_exactpaint_k47_whole_paints_shown).prog 45).name = ("law" : PySem.Str) := by kernel_rfl
      rw [← e]
      exact hmg0
    have Md := Xp.md_of (L := Xp.Lks) (G := Xp.Gs) (D := Xp.Ds) KX G e c rfl Xp.oks Xp.bsA
    obtain ⟨a, _, h1, h2, _⟩ := Md.fns 36 Xp.dLaw rfl
    have e1 : a = fa := by
      have z := h2.symm.trans hmg
      cases z
      rfl
    subst e1
    obtain ⟨fd, sp, hb, hsp, hF⟩ := Xp.law_of (P := (PySem.Challenge.rw_exactpaint_k47_whole_paints_shown).prog) (w := w) (wf := Xp.wfL) (k := 60) (li := 36) (n := 63) (d := Xp.dLaw) KX G Md rfl rfl (Xp.bsA Xp.dLaw (List.mem_of_getElem? (i := 36) rfl)) Xp.hev
    cases h1
    exact ⟨K, fd, sp, KX, hb, hsp, hF⟩
