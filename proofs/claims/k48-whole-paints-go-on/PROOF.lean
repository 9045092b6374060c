import PyProof.Rows.All
import Wide.All
import OpenK.AllK
import Wide.FinOn
import HandS.ForMost
import HandS.Wide
import HandS.Gcd
import HandS.Style
import HandS.Flow
import HandS.Zip
import HandS.SortInts
import HandS.TupSets
import HandS.TupAny
import HandS.TupMul
import HandS.IsInst
import HandS.RaiseMore
import HandS.Deep
import HandS.Head0
import HandS.Head1
import HandS.Head2
import HandS.HeadEnd
import HandS.HeadHook1
import HandS.HeadHook2
import KE.GoesEnum
import HandS.Dict
import HandS.TryOnly
import HandS.Head3
import PyProof.Rows.StrBin
import PySem.Challenge.RW_exactpaint_k48_whole_paints_go_on
set_option Elab.async false
set_option linter.all false
set_option maxRecDepth 100000
set_option maxHeartbeats 8000000
set_option autoImplicit false
/-! E1: a small pure language, its values, its evaluator. -/
namespace Xp
open PySem

/-! ### values -/
inductive W where
  | d (x : PyData)
  | cell (n : Nat)
  | fn (i : Nat)
  | known (ns : List Int)
inductive R where
  | w (x : W)
  | own (xs : List PyData)
  | bor (xs : List PyData)
/-- a shared list -/
abbrev Cell := List PyData
structure S where
  sl : List (Option R)
  st : List Cell

abbrev R.i (a : Int) : R := .w (.d (.int a))
abbrev R.b (a : Bool) : R := .w (.d (.bool a))
abbrev R.s (a : Str) : R := .w (.d (.str a))
abbrev R.t (a : List PyData) : R := .w (.d (.tuple a))
abbrev R.n : R := .w (.d .none)

/-- what a result is, as data -/
def R.dat (st : List Cell) : R → Option PyData
  | .w (.d x) => some x
  | .w (.cell n) => (st[n]?).map .list
  | .w (.fn _) => none
  | .w (.known _) => none
  | .own xs => some (.list xs)
  | .bor xs => some (.list xs)
def R.fz : R → Option W
  | .w x => some x
  | .own xs => some (.d (.list xs))
  | .bor _ => none
def asD : List W → Option (List PyData)
  | [] => some []
  | .d x :: r => (asD r).map (x :: ·)
  | _ :: _ => none

/-! ### the language -/
inductive Bo where | add | sub | mul | fdiv | mod | pow
inductive Co where | eq | ne | lt | le | gt | ge | isn | notn | isb | notb | isin | notin
inductive U1 where | rev | neg | len | abs | maxl | minl | sum | any | all | sorted | setsorted | list | tuple | int | str | repr | isT (T : String)
inductive U2 where | max | min | gcd | join | count
inductive Tg where | v (i : Nat) | nil | cons (t : Tg) (r : Tg)
mutual
inductive Ex where
  | int (i : Int) | bl (b : Bool) | non | str (s : Str)
  | var (i : Nat) | vb (i : Nat) | vm (i : Nat)
  | glb (g : Nat) | fnv (f : Nat) | scr (a : Ex)
  | tup (es : Exs) | lst (es : Exs)
  | bin (o : Bo) (a b : Ex)
  | cmp (o : Co) (a b : Ex) | cmp2 (o o2 : Co) (a b c : Ex)
  | and (a b : Ex) | or (a b : Ex) | not (a : Ex)
  | ite (c a b : Ex)
  | cal (f : Nat) (es : Exs) | cav (i : Nat) (es : Exs)
  | u1 (f : U1) (a : Ex) | u2 (f : U2) (a b : Ex)
  | ix (a b : Ex) | sl (a : Ex) (lo hi : Ex) | nopart
  | lc (own : List Nat) (tg : Tg) (it : It) (c : Ex) (e : Ex)
  | lc2 (own own1 : List Nat) (tg : Tg) (it : It) (c : Ex) (tg1 : Tg) (it1 : It) (c1 : Ex) (e : Ex)
  | lc3 (own own1 own2 : List Nat) (tg : Tg) (it : It) (c : Ex) (tg1 : Tg) (it1 : It) (c1 : Ex) (tg2 : Tg) (it2 : It) (c2 : Ex) (e : Ex)
  | dsel (ks : List Str) (es : Exs) (k : Ex)
inductive Exs where | nil | cons (e : Ex) (es : Exs)
inductive It where | seq (e : Ex) | rng1 (a : Ex) | rng2 (a b : Ex) | rng3 (a b c : Ex) | enum (a : Ex) | zip (a b : Ex)
end
mutual
inductive St where
  | asg (tg : Tg) (e : Ex)
  | asgC (i : Nat) (e : Ex)
  | par (is : List Nat) (es : Exs)
  | setv (i : Nat) (k e : Ex)
  | app (i : Nat) (e : Ex)
  | ins (i : Nat) (k e : Ex)
  | exp (e : Ex)
  | ret (e : Ex) | retN
  | ite (c : Ex) (a b : Sts)
  | for_ (tg : Tg) (it : It) (b : Sts)
  | whl (c : Ex) (b : Sts)
  | brk | cnt | pass | never
inductive Sts where | nil | cons (s : St) (r : Sts)
end
def Exs.len : Exs → Nat
  | .nil => 0
  | .cons _ r => r.len + 1

/-! ### operations on data -/
def mulOk (a b : Int) : Bool := decide (a.natAbs < 2 ^ 64) || decide (b.natAbs < 2 ^ 64) || decide (a.natAbs.log2 + b.natAbs.log2 < 1000000)
def divOk (b : Int) : Bool := decide (b ≠ 0) && decide (b.natAbs.log2 < 9000)
def bin2 : Bo → PyData → PyData → Option R
  | .add, .int a, .int b => some (.i (a + b))
  | .add, .str a, .str b => if a.length + b.length ≤ 16777216 then some (.s (a ++ b)) else none
  | .add, .tuple a, .tuple b => if a.length + b.length ≤ 16777216 then some (.t (a ++ b)) else none
  | .add, .list a, .list b => if a.length + b.length ≤ 16777216 then some (.own (a ++ b)) else none
  | .sub, .int a, .int b => some (.i (a - b))
  | .mul, .int a, .int b => if mulOk a b = true then some (.i (a * b)) else none
  | .mul, .tuple a, .int k => if 0 ≤ k ∧ k ≤ 1000 ∧ a ≠ [] ∧ a.length ≤ 1000 then some (.t (List.replicate k.toNat a).flatten) else none
  | .mul, .list a, .int k => if 0 ≤ k ∧ k ≤ 1000 ∧ a.length ≤ 1000 then some (.own (List.replicate k.toNat a).flatten) else none
  | .fdiv, .int a, .int b => if divOk b = true then some (.i (a.fdiv b)) else none
  | .mod, .int a, .int b => if b ≠ 0 then some (.i (a.fmod b)) else none
  | .pow, .int a, .int b => if 0 ≤ b ∧ b ≤ 1000 ∧ a.natAbs < 2 ^ 64 then some (.i (a ^ b.toNat)) else none
  | _, _, _ => none
def flatD : PyData → Bool
  | .none | .bool _ | .int _ | .str _ => true
  | _ => false
def okEq (p : PyData) : Bool := SeqAt.shaped p
def inD (p : PyData) (xs : List PyData) : Option Bool := if okEq p && okEq (.list xs) then some (xs.any fun y => PyData.eqv y p) else none
def seqOf : PyData → Option (List PyData)
  | .list xs => some xs
  | .tuple xs => some xs
  | _ => none
def nonB : PyData → Bool
  | .none => true
  | _ => false
def cmp2 : Co → PyData → PyData → Option Bool
  | .eq, .str a, .str b => some (decide (a = b))
  | .ne, .str a, .str b => some (!decide (a = b))
  | .eq, p, q => if okEq p && okEq q then some (PyData.eqv p q) else none
  | .ne, p, q => if okEq p && okEq q then some (!PyData.eqv p q) else none
  | .lt, .int a, .int b => some (decide (a < b))
  | .le, .int a, .int b => some (decide (a ≤ b))
  | .gt, .int a, .int b => some (decide (b < a))
  | .ge, .int a, .int b => some (decide (b ≤ a))
  | .isn, p, .none => some (nonB p)
  | .notn, p, .none => some (!nonB p)
  | .isb, .bool a, .bool b => some (decide (a = b))
  | .notb, .bool a, .bool b => some (!decide (a = b))
  | .isin, p, q => (seqOf q).bind fun xs => inD p xs
  | .notin, p, q => (seqOf q).bind fun xs => (inD p xs).map (!·)
  | _, _, _ => none
def intsOf : List PyData → Option (List Int)
  | [] => some []
  | .int a :: r => (intsOf r).map (a :: ·)
  | _ :: _ => none
def blsOf : List PyData → Option (List Bool)
  | [] => some []
  | .bool a :: r => (blsOf r).map (a :: ·)
  | _ :: _ => none
def strsOf : List PyData → Option (List Str)
  | [] => some []
  | .str a :: r => (strsOf r).map (a :: ·)
  | _ :: _ => none
def greatest : List Int → Option Int
  | [] => none
  | [a] => some a
  | a :: r => (greatest r).map fun b => if b > a then b else a
def least : List Int → Option Int
  | [] => none
  | [a] => some a
  | a :: r => (least r).map fun b => if b < a then b else a
def insI (a : Int) : List Int → List Int
  | [] => [a]
  | b :: r => if a ≤ b then a :: b :: r else b :: insI a r
def sortI : List Int → List Int
  | [] => []
  | a :: r => insI a (sortI r)
def tyOf : PyData → Option String
  | .none => some "NoneType"
  | .bool _ => some "bool"
  | .int _ => some "int"
  | .str _ => some "str"
  | .list _ => some "list"
  | .tuple _ => some "tuple"
  | .dict _ => none
def isTy (t T : String) : Option Bool := L2.kitB t T
def showOk (p : PyData) : Bool := p.showable && !p.hasDict && decide (p.depth ≤ 64) && decide (p.shown.length ≤ 16777216)
def un1 : U1 → PyData → Option R
  | .neg, .int a => some (.i (-a))
  | .len, .list xs => some (.i xs.length)
  | .rev, .list xs => some (.own xs.reverse)
  | .len, .tuple xs => some (.i xs.length)
  | .abs, .int a => some (.i (if a < 0 then -a else a))
  | .maxl, .list xs => ((intsOf xs).bind greatest).map fun a => .i a
  | .minl, .list xs => ((intsOf xs).bind least).map fun a => .i a
  | .sum, .list xs => (intsOf xs).map fun a => .i a.sum
  | .any, .list xs => (blsOf xs).map fun a => .b (a.any id)
  | .all, .list xs => (blsOf xs).map fun a => .b (a.all id)
  | .list, .list xs => some (.own xs)
  | .list, .tuple xs => some (.own xs)
  | .tuple, .list xs => some (.t xs)
  | .tuple, .tuple xs => some (.t xs)
  | .int, .int a => some (.i a)
  | .int, .bool a => some (.i (if a then 1 else 0))
  | .str, .int a => if a.natAbs.log2 < 1920 then some (.s (toString a)) else none
  | .sorted, .list xs => (intsOf xs).map fun a => .own ((sortI a).map .int)
  | .repr, p => if showOk p = true then some (.s p.shown) else none
  | .isT T, p => (tyOf p).bind fun t => (isTy t T).map fun b => .b b
  | _, _ => none
def un2 : U2 → PyData → PyData → Option R
  | .max, .int a, .int b => some (.i (if b > a then b else a))
  | .min, .int a, .int b => some (.i (if b < a then b else a))
  | .gcd, .int a, .int b => some (.i (Nat.gcd a.natAbs b.natAbs : Nat))
  | .join, .str a, .list xs => (strsOf xs).bind fun ys => if (ys.map (·.length)).sum + ys.length * a.length ≤ 16777216 then some (.s (Txt.join a ys)) else none
  | _, _, _ => none
def atD (xs : List PyData) (i : Int) : Option PyData := L2.atI xs i
def ix2 : PyData → PyData → Option R
  | .list xs, .int i => (atD xs i).map fun x => .w (.d x)
  | .tuple xs, .int i => (atD xs i).map fun x => .w (.d x)
  | _, _ => none
def cutD (xs : List PyData) (lo hi : Option Int) : List PyData := (xs.drop (HT.sIx xs.length 0 lo)).take (HT.sIx xs.length xs.length hi - HT.sIx xs.length 0 lo)
def sl3 (lo hi : Option Int) : PyData → Option R
  | .list xs => some (.own (cutD xs lo hi))
  | .tuple xs => some (.t (cutD xs lo hi))
  | _ => none
def rngD (lo : Int) : Nat → List PyData
  | 0 => []
  | n + 1 => .int lo :: rngD (lo + 1) n
/-- i, i + k, .. (so many) -/
def stepD (i k : Int) : Nat → List PyData
  | 0 => []
  | n + 1 => .int i :: stepD (i + k) k n
def enumD (i : Int) : List PyData → List PyData
  | [] => []
  | x :: r => .tuple [.int i, x] :: enumD (i + 1) r
def zipD : List PyData → List PyData → List PyData
  | x :: r, y :: q => .tuple [x, y] :: zipD r q
  | _, _ => []

/-! ### running -/
def bd {α β : Type} (x : Option (α × S)) (f : α → S → Option (β × S)) : Option (β × S) := match x with
  | some (a, s) => f a s
  | none => none
def on {β : Type} (x : Option β) (s : S) : Option (β × S) := match x with
  | some b => some (b, s)
  | none => none
def wipe (l : List (Option R)) : List Nat → List (Option R)
  | [] => l
  | v :: vs => (wipe l vs).set v none
/-- the slots at vs as they stood ahead -/
def back (l old : List (Option R)) : List Nat → List (Option R)
  | [] => l
  | v :: vs => (back l old vs).set v (old.getD v none)
/-- no list of its own stands in these slots -/
def noOwn (l : List (Option R)) (vs : List Nat) : Bool := vs.all fun i => match l[i]? with
  | some (some (.own _)) => false
  | _ => true
def bindT : Tg → PyData → List (Option R) → Option (List (Option R))
  | .v i, x, l => if i < l.length then some (l.set i (some (.w (.d x)))) else none
  | .nil, .tuple [], l => some l
  | .cons t r, .tuple (x :: xs), l => (bindT t x l).bind fun l2 => bindT r (.tuple xs) l2
  | _, _, _ => none
def asB (st : List Cell) (r : R) : Option Bool := match r.dat st with
  | some (.bool b) => some b
  | _ => none
def asI (st : List Cell) (r : R) : Option Int := match r.dat st with
  | some (.int b) => some b
  | _ => none
def lcL (f : PyData → S → Option (Option PyData × S)) : List PyData → S → Option (List PyData × S)
  | [], s => some ([], s)
  | x :: xs, s => bd (f x s) fun o s1 => bd (lcL f xs s1) fun r s2 => some (o.toList ++ r, s2)
def lcM (f : S → Option (List PyData × S)) (g : PyData → S → Option (Bool × S)) : List PyData → S → Option (List PyData × S)
  | [], s => some ([], s)
  | x :: xs, s => bd (g x s) fun k s1 => bd (if k = true then f s1 else some ([], s1)) fun o s2 => bd (lcM f g xs s2) fun r s3 => some (o ++ r, s3)
def keyAt (ks : List Str) (ds : List PyData) (k : Str) : Option PyData := match ks, ds with
  | [a, b, c], [x, y, z] => if decide (a ≠ b) && decide (a ≠ c) && decide (b ≠ c) = true then (if k = a then some x else if k = b then some y else if k = c then some z else none) else none
  | _, _ => none
def fits (xs : List PyData) : Option (List PyData) := if xs.length ≤ 16777215 then some xs else none

section
variable (cal : Nat → List W → List Cell → Option (R × List Cell)) (G : List PyData)
mutual
def ev : Ex → S → Option (R × S)
  | .int i, s => some (.i i, s)
  | .bl b, s => some (.b b, s)
  | .non, s => some (.n, s)
  | .str x, s => some (.s x, s)
  | .var i, s => (match s.sl[i]? with
    | some (some (.own xs)) => some (.w (.d (.list xs)), ⟨s.sl.set i (some (.w (.d (.list xs)))), s.st⟩)
    | some (some (.w x)) => some (.w x, s)
    | _ => none)
  | .vb i, s => (match s.sl[i]? with
    | some (some (.own xs)) => some (.bor xs, s)
    | some (some (.w x)) => some (.w x, s)
    | _ => none)
  | .vm i, s => (match s.sl[i]? with
    | some (some (.own xs)) => some (.own xs, ⟨s.sl.set i none, s.st⟩)
    | some (some (.w x)) => some (.w x, s)
    | _ => none)
  | .glb g, s => on ((G[g]?).map fun x => .w (.d x)) s
  | .fnv f, s => some (.w (.fn f), s)
  | .scr a, s => bd (ev a s) fun x s1 => on (match x with | .w (.known ns) => some (.own (ns.map .int)) | _ => none) s1
  | .tup es, s => bd (evs es s) fun ws s1 => on ((asD ws).map fun ds => .t ds) s1
  | .lst es, s => bd (evs es s) fun ws s1 => on ((asD ws).map fun ds => .own ds) s1
  | .bin o a b, s => bd (ev a s) fun x s1 => bd (ev b s1) fun y s2 => on ((x.dat s2.st).bind fun p => (y.dat s2.st).bind fun q => bin2 o p q) s2
  | .cmp o a b, s => bd (ev a s) fun x s1 => bd (ev b s1) fun y s2 => on ((x.dat s2.st).bind fun p => (y.dat s2.st).bind fun q => (cmp2 o p q).map fun c => .b c) s2
  | .cmp2 o o2 a b c, s => bd (ev a s) fun x s1 => bd (ev b s1) fun y s2 => bd (on ((x.dat s2.st).bind fun p => (y.dat s2.st).bind fun q => cmp2 o p q) s2) fun k s3 =>
      if k = true then bd (ev c s3) fun z s4 => on ((y.dat s4.st).bind fun p => (z.dat s4.st).bind fun q => (cmp2 o2 p q).map fun c => .b c) s4 else some (.b false, s3)
  | .and a b, s => bd (ev a s) fun x s1 => bd (on (asB s1.st x) s1) fun k s2 => if k = true then ev b s2 else some (.b false, s2)
  | .or a b, s => bd (ev a s) fun x s1 => bd (on (asB s1.st x) s1) fun k s2 => if k = true then some (.b true, s2) else ev b s2
  | .not a, s => bd (ev a s) fun x s1 => bd (on (asB s1.st x) s1) fun k s2 => some (.b (!k), s2)
  | .ite c a b, s => bd (ev c s) fun x s1 => bd (on (asB s1.st x) s1) fun k s2 => if k = true then ev a s2 else ev b s2
  | .cal f es, s => bd (evs es s) fun ws s1 => (match cal f ws s1.st with
    | some (r, st) => some (r, ⟨s1.sl, st⟩)
    | none => none)
  | .cav i es, s => (match s.sl[i]? with
    | some (some (.w (.fn f))) => bd (evs es s) fun ws s1 => (match cal f ws s1.st with
      | some (r, st) => some (r, ⟨s1.sl, st⟩)
      | none => none)
    | _ => none)
  | .u1 f a, s => bd (ev a s) fun x s1 => on ((x.dat s1.st).bind fun p => un1 f p) s1
  | .u2 f a b, s => bd (ev a s) fun x s1 => bd (ev b s1) fun y s2 => on ((x.dat s2.st).bind fun p => (y.dat s2.st).bind fun q => un2 f p q) s2
  | .ix a b, s => bd (ev a s) fun x s1 => bd (ev b s1) fun y s2 => on ((x.dat s2.st).bind fun p => (y.dat s2.st).bind fun q => ix2 p q) s2
  | .sl a lo hi, s => bd (ev a s) fun x s1 => bd (match lo with
    | .nopart => some (none, s1)
    | _ => bd (ev lo s1) fun x s2 => on ((asI s2.st x).map some) s2) fun l s2 => bd (match hi with
    | .nopart => some (none, s2)
    | _ => bd (ev hi s2) fun x s3 => on ((asI s3.st x).map some) s3) fun h s3 => on ((x.dat s3.st).bind fun p => sl3 l h p) s3
  | .nopart, _ => none
  | .lc own tg it c e, s => bd (evi it s) fun xs s1 => bd (on (if noOwn s1.sl own = true then fits xs else none) s1) fun xs s1 =>
      bd (lcL (fun x s2 => bd (on (bindT tg x (wipe s2.sl own)) s2) fun l s3 => bd (ev c ⟨l, s3.st⟩) fun k s4 => bd (on (asB s4.st k) s4) fun k s5 =>
        if k = true then bd (ev e s5) fun y s6 => on (match y.fz with | some (.d d) => some (some d) | _ => none) s6 else some (none, s5)) xs s1) fun r s7 => some (.own r, ⟨back s7.sl s1.sl own, s7.st⟩)
  | .lc2 own own1 tg it c tg1 it1 c1 e, s => bd (evi it s) fun xs s1 => bd (on (if noOwn s1.sl own = true then fits xs else none) s1) fun xs s1 =>
      bd (lcM (fun s5 => bd (evi it1 s5) fun ys s6 => bd (on (if noOwn s6.sl own1 = true then fits ys else none) s6) fun ys s6 =>
          lcM (fun s9 => bd (ev e s9) fun z sa => on (match z.fz with | some (.d d) => some [d] | _ => none) sa)
            (fun y s7 => bd (on (bindT tg1 y (wipe s7.sl own1)) s7) fun l s8 => bd (ev c1 ⟨l, s8.st⟩) fun k s9 => on (asB s9.st k) s9) ys s6)
        (fun x s2 => bd (on (bindT tg x (wipe s2.sl own)) s2) fun l s3 => bd (ev c ⟨l, s3.st⟩) fun k s4 => on (asB s4.st k) s4) xs s1) fun r sb => bd (on (fits r) sb) fun r sb => some (.own r, ⟨back sb.sl s1.sl own, sb.st⟩)
  | .lc3 own own1 own2 tg it c tg1 it1 c1 tg2 it2 c2 e, s => bd (evi it s) fun xs s1 => bd (on (if noOwn s1.sl own = true then fits xs else none) s1) fun xs s1 =>
      bd (lcM (fun s5 => bd (evi it1 s5) fun ys s6 => bd (on (if noOwn s6.sl own1 = true then fits ys else none) s6) fun ys s6 =>
          lcM (fun s9 => bd (evi it2 s9) fun zs sa => bd (on (if noOwn sa.sl own2 = true then fits zs else none) sa) fun zs sa =>
              lcM (fun sc => bd (ev e sc) fun z sd => on (match z.fz with | some (.d d) => some [d] | _ => none) sd)
                (fun y s7 => bd (on (bindT tg2 y (wipe s7.sl own2)) s7) fun l s8 => bd (ev c2 ⟨l, s8.st⟩) fun k s9 => on (asB s9.st k) s9) zs sa)
            (fun y s7 => bd (on (bindT tg1 y (wipe s7.sl own1)) s7) fun l s8 => bd (ev c1 ⟨l, s8.st⟩) fun k s9 => on (asB s9.st k) s9) ys s6)
        (fun x s2 => bd (on (bindT tg x (wipe s2.sl own)) s2) fun l s3 => bd (ev c ⟨l, s3.st⟩) fun k s4 => on (asB s4.st k) s4) xs s1) fun r sb => bd (on (fits r) sb) fun r sb => some (.own r, ⟨back sb.sl s1.sl own, sb.st⟩)
  | .dsel ks es k, s => bd (evs es s) fun ws s1 => bd (ev k s1) fun x s2 => on ((asD ws).bind fun ds => (x.dat s2.st).bind fun p => match p with
      | .str z => (keyAt ks ds z).map fun d => .w (.d d)
      | _ => none) s2
def evs : Exs → S → Option (List W × S)
  | .nil, s => some ([], s)
  | .cons e es, s => bd (ev e s) fun x s1 => bd (on x.fz s1) fun w s1 => bd (evs es s1) fun ws s2 => some (w :: ws, s2)
def evi : It → S → Option (List PyData × S)
  | .seq e, s => bd (ev e s) fun x s1 => bd (on x.fz s1) fun w s1 => on (match w with | .d (.list xs) => some xs | .d (.tuple xs) => some xs | _ => none) s1
  | .rng1 a, s => bd (ev a s) fun x s1 => on ((asI s1.st x).bind fun j => if j ≤ 4611686018427387903 ∧ -4611686018427387904 ≤ j then some (rngD 0 j.toNat) else none) s1
  | .rng2 a b, s => bd (ev a s) fun x s1 => bd (on (asI s1.st x) s1) fun i s1 => bd (ev b s1) fun y s2 => on ((asI s2.st y).bind fun j =>
      if j ≤ 4611686018427387903 ∧ -4611686018427387904 ≤ j ∧ i ≤ 4611686018427387903 ∧ -4611686018427387904 ≤ i then some (rngD i (j - i).toNat) else none) s2
  | .rng3 a b c, s => bd (ev a s) fun x s1 => bd (on (asI s1.st x) s1) fun i s1 => bd (ev b s1) fun y s2 => bd (on (asI s2.st y) s2) fun j s2 => bd (ev c s2) fun z s3 => on ((asI s3.st z).bind fun k =>
      if 1 ≤ k ∧ k ≤ 1000 ∧ 0 ≤ i ∧ i ≤ 1000000 ∧ 0 ≤ j ∧ j ≤ 1000000 then some (stepD i k ((j - i + k - 1) / k).toNat) else none) s3
  | .enum a, s => bd (ev a s) fun x s1 => bd (on x.fz s1) fun w s1 => on (match w with | .d (.list xs) => some (enumD 0 xs) | .d (.tuple xs) => some (enumD 0 xs) | _ => none) s1
  | .zip a b, s => bd (ev a s) fun x s1 => bd (on x.fz s1) fun w s1 => bd (ev b s1) fun y s2 => bd (on y.fz s2) fun u s2 => on (match w, u with
    | .d (.list xs), .d (.list ys) => some (zipD xs ys)
    | .d (.tuple xs), .d (.tuple ys) => some (zipD xs ys)
    | _, _ => none) s2
end
def evp (x : Ex) (s : S) : Option (Option Int × S) := match x with
  | .nopart => some (none, s)
  | _ => bd (ev cal G x s) fun y s1 => on ((asI s1.st y).map some) s1
end

inductive Fl where | nx | bk | ct | rt (r : R)
def loopL (f : PyData → S → Option (Fl × S)) : List PyData → S → Option (Fl × S)
  | [], s => some (.nx, s)
  | x :: xs, s => bd (f x s) fun o s1 => (match o with
    | .nx => loopL f xs s1
    | .ct => loopL f xs s1
    | .bk => some (.nx, s1)
    | .rt r => some (.rt r, s1))
def loopW (t : S → Option (Bool × S)) (f : S → Option (Fl × S)) : Nat → S → Option (Fl × S)
  | 0, _ => none
  | n + 1, s => bd (t s) fun k s1 => if k = true then bd (f s1) fun o s2 => (match o with
    | .nx => loopW t f n s2
    | .ct => loopW t f n s2
    | .bk => some (.nx, s2)
    | .rt r => some (.rt r, s2)) else some (.nx, s1)
def setAll (l : List (Option R)) : List Nat → List W → Option (List (Option R))
  | [], [] => some l
  | i :: is, w :: ws => if i < l.length then setAll (l.set i (some (.w w))) is ws else none
  | _, _ => none
section
variable (cal : Nat → List W → List Cell → Option (R × List Cell)) (G : List PyData) (N : Nat)
mutual
def run : St → S → Option (Fl × S)
  | .asg (.v i) e, s => bd (ev cal G e s) fun r s1 => (match r with
    | .bor _ => none
    | r => if i < s1.sl.length then some (.nx, ⟨s1.sl.set i (some r), s1.st⟩) else none)
  | .asg tg e, s => bd (ev cal G e s) fun r s1 => bd (on r.fz s1) fun w s1 => (match w with
    | .d (.list xs) => bd (on (bindT tg (.tuple xs) s1.sl) s1) fun l s1 => some (.nx, ⟨l, s1.st⟩)
    | .d x => bd (on (bindT tg x s1.sl) s1) fun l s1 => some (.nx, ⟨l, s1.st⟩)
    | _ => none)
  | .asgC i e, s => bd (ev cal G e s) fun r s1 => (match r with
    | .own xs => if i < s1.sl.length then some (.nx, ⟨s1.sl.set i (some (.w (.cell s1.st.length))), s1.st ++ [xs]⟩) else none
    | _ => none)
  | .par is es, s => bd (evs cal G es s) fun ws s1 => bd (on (setAll s1.sl is ws) s1) fun l s1 => some (.nx, ⟨l, s1.st⟩)
  | .setv i k e, s => bd (ev cal G e s) fun r s1 => bd (on r.fz s1) fun w s1 => bd (on (match s1.sl[i]? with | some (some _) => some () | _ => none) s1) fun _ s1 => bd (ev cal G k s1) fun kr s2 => bd (on (asI s2.st kr) s2) fun j s2 => (match w with
    | .d x => (match s2.sl[i]? with
      | some (some (.own xs)) => (match L2.ixN xs.length j with
        | some n => some (.nx, ⟨s2.sl.set i (some (.own (xs.set n x))), s2.st⟩)
        | none => none)
      | some (some (.w (.cell c))) => (match s2.st[c]? with
        | some xs => (match L2.ixN xs.length j with
          | some n => some (.nx, ⟨s2.sl, s2.st.set c (xs.set n x)⟩)
          | none => none)
        | none => none)
      | _ => none)
    | _ => none)
  | .app i e, s => bd (on (match s.sl[i]? with | some (some (.own _)) => some () | _ => none) s) fun _ s => bd (ev cal G e s) fun r s1 => bd (on r.fz s1) fun w s1 => (match w, s1.sl[i]? with
    | .d x, some (some (.own xs)) => if xs.length < 16777216 then some (.nx, ⟨s1.sl.set i (some (.own (xs ++ [x]))), s1.st⟩) else none
    | _, _ => none)
  | .ins i k e, s => bd (on (match s.sl[i]? with | some (some (.own _)) => some () | _ => none) s) fun _ s => bd (ev cal G k s) fun kr s1 => bd (on (asI s1.st kr) s1) fun j s1 => bd (ev cal G e s1) fun r s2 => bd (on r.fz s2) fun w s2 => (match w, s2.sl[i]? with
    | .d x, some (some (.own xs)) => if xs.length < 16777216 ∧ 0 ≤ j ∧ j < 9223372036854775808 then some (.nx, ⟨s2.sl.set i (some (.own (xs.take j.toNat ++ [x] ++ xs.drop j.toNat))), s2.st⟩) else none
    | _, _ => none)
  | .exp e, s => bd (ev cal G e s) fun _ s1 => some (.nx, s1)
  | .ret e, s => bd (ev cal G e s) fun r s1 => (match r with
    | .bor _ => none
    | r => some (.rt r, s1))
  | .retN, s => some (.rt .n, s)
  | .ite c a b, s => bd (ev cal G c s) fun x s1 => bd (on (asB s1.st x) s1) fun k s1 => if k = true then runs a s1 else runs b s1
  | .for_ tg it b, s => bd (evi cal G it s) fun xs s1 => loopL (fun x s2 => bd (on (bindT tg x s2.sl) s2) fun l s3 => runs b ⟨l, s3.st⟩) xs s1
  | .whl c b, s => loopW (fun s => bd (ev cal G c s) fun x s1 => on (asB s1.st x) s1) (fun s => runs b s) N s
  | .brk, s => some (.bk, s)
  | .cnt, s => some (.ct, s)
  | .pass, s => some (.nx, s)
  | .never, _ => none
def runs : Sts → S → Option (Fl × S)
  | .nil, s => some (.nx, s)
  | .cons a r, s => bd (run a s) fun f s1 => (match f with
    | .nx => runs r s1
    | f => some (f, s1))
end
end
/-- a def: how many parameters, how many names in all, its body -/
structure Df where
  np : Nat
  nn : Nat
  body : Sts
def call (P : List Df) (G : List PyData) (N : Nat) : Nat → Nat → List W → List Cell → Option (R × List Cell)
  | 0, _, _, _ => none
  | k + 1, f, ws, st => (match P[f]? with
    | some d => if ws.length = d.np then (match runs (call P G N k) G N d.body ⟨ws.map (fun w => some (.w w)) ++ List.replicate (d.nn - d.np) none, st⟩ with
      | some (.rt r, s) => some (r, s.st)
      | some (.nx, s) => some (.n, s.st)
      | _ => none) else none
    | none => none)
end Xp

/-! E2: what a value of the small language is in the layer's heap. -/
namespace Xp
open PySem PySem.Spec PyProof.Rows L2

section
variable {K : PySem.W.Frag} {fa : Nat → Option Addr} {F F1 F' H H1 H' H2 : Hp} {ι ι' : List Addr} {v : V} {a : Addr}

theorem sqT_mono (e : Same H H1) {xs : List V} (h : SqT K H a xs) : SqT K H1 a xs := by
  rcases h with (h | ⟨o, h⟩) | h
  · exact .inl (.inl (e _ _ h))
  · exact .inl (.inr ⟨o, e _ _ h⟩)
  · exact .inr h
/-! data: none, bools, ints, texts, tuples (tracked or written), lists (tracked, or known) -/
mutual
inductive Dq (K : PySem.W.Frag) (H : Hp) : V → PyData → Prop
  | non : Dq K H .non .none
  | bl (b : Bool) : Dq K H (.bl b) (.bool b)
  | int (i : Int) : Dq K H (.int i) (.int i)
  | str (x : Str) : Dq K H (.str x) (.str x)
  | lst {a : Addr} {xs : List V} {ds : List PyData} : H a = some (.lst xs) → DqAll K H xs ds → Dq K H (.ref a) (.list ds)
  | tup {a : Addr} {xs : List V} {ds : List PyData} : SqT K H a xs → DqAll K H xs ds → Dq K H (.ref a) (.tuple ds)
inductive DqAll (K : PySem.W.Frag) (H : Hp) : List V → List PyData → Prop
  | nil : DqAll K H [] []
  | cons {v : V} {vs : List V} {d : PyData} {ds : List PyData} : Dq K H v d → DqAll K H vs ds → DqAll K H (v :: vs) (d :: ds)
end
mutual
theorem dq_dp : ∀ (d : PyData) (v : V), Dq K H v d → Dp K H v d
  | .none, _, h => by cases h; exact .non
  | .bool b, _, h => by cases h; exact .bl b
  | .int i, _, h => by cases h; exact .int i
  | .str x, _, h => by cases h; exact .str x
  | .list ds, _, h => by cases h with | lst q r => exact .lst (SqL.of q) (dqa_dp ds _ r)
  | .tuple ds, _, h => by cases h with | tup q r => exact .tup q (dqa_dp ds _ r)
  | .dict _, _, h => by cases h
theorem dqa_dp : ∀ (ds : List PyData) (vs : List V), DqAll K H vs ds → DpAll K H vs ds
  | [], _, h => by cases h; exact .nil
  | d :: ds, _, h => by cases h with | cons q r => exact .cons (dq_dp d _ q) (dqa_dp ds _ r)
end
mutual
theorem dp_mono (e : Same H H1) : ∀ (d : PyData) (v : V), Dq K H v d → Dq K H1 v d
  | .none, _, h => by cases h; exact .non
  | .bool b, _, h => by cases h; exact .bl b
  | .int i, _, h => by cases h; exact .int i
  | .str x, _, h => by cases h; exact .str x
  | .list ds, _, h => by cases h with | lst q r => exact .lst (e _ _ q) (dpa_mono e ds _ r)
  | .tuple ds, _, h => by cases h with | tup q r => exact .tup (sqT_mono e q) (dpa_mono e ds _ r)
  | .dict _, _, h => by cases h
theorem dpa_mono (e : Same H H1) : ∀ (ds : List PyData) (vs : List V), DqAll K H vs ds → DqAll K H1 vs ds
  | [], _, h => by cases h; exact .nil
  | d :: ds, _, h => by cases h with | cons q r => exact .cons (dp_mono e d _ q) (dpa_mono e ds _ r)
end
theorem dpa_len : ∀ {vs : List V} {ds : List PyData}, DqAll K H vs ds → vs.length = ds.length
  | _, _, .nil => rfl
  | _, _, .cons _ t => congrArg (· + 1) (dpa_len t)
theorem dpa_app : ∀ {vs us : List V} {ds es : List PyData}, DqAll K H vs ds → DqAll K H us es → DqAll K H (vs ++ us) (ds ++ es)
  | _, _, _, _, .nil, s => s
  | _, _, _, _, .cons q t, s => .cons q (dpa_app t s)
theorem dpa_rev : ∀ {vs : List V} {ds : List PyData}, DqAll K H vs ds → DqAll K H vs.reverse ds.reverse
  | _, _, .nil => .nil
  | _, _, .cons q t => by
    rw [List.reverse_cons, List.reverse_cons]
    exact dpa_app (dpa_rev t) (.cons q .nil)
theorem dpa_take : ∀ {vs : List V} {ds : List PyData} (n : Nat), DqAll K H vs ds → DqAll K H (vs.take n) (ds.take n)
  | _, _, 0, _ => .nil
  | _, _, _ + 1, .nil => .nil
  | _, _, n + 1, .cons q t => .cons q (dpa_take n t)
theorem dpa_drop : ∀ {vs : List V} {ds : List PyData} (n : Nat), DqAll K H vs ds → DqAll K H (vs.drop n) (ds.drop n)
  | _, _, 0, q => q
  | _, _, _ + 1, .nil => .nil
  | _, _, n + 1, .cons _ t => dpa_drop n t
theorem dpa_get : ∀ {vs : List V} {ds : List PyData} {i : Nat} {d : PyData}, DqAll K H vs ds → ds[i]? = some d → ∃ v, vs[i]? = some v ∧ Dq K H v d
  | _, _, _, _, .nil, e => by simp at e
  | _, _, 0, _, .cons q _, e => by simp at e; subst e; exact ⟨_, rfl, q⟩
  | _, _, i + 1, d, .cons _ t, e => by
    obtain ⟨u, h1, h2⟩ := dpa_get (i := i) (d := d) t (by simpa using e)
    exact ⟨u, by simpa using h1, h2⟩
theorem dpa_getV : ∀ {vs : List V} {ds : List PyData} {i : Nat} {u : V}, DqAll K H vs ds → vs[i]? = some u → ∃ d, ds[i]? = some d ∧ Dq K H u d
  | _, _, _, _, .nil, e => by simp at e
  | _, _, 0, _, .cons q _, e => by simp at e; subst e; exact ⟨_, rfl, q⟩
  | _, _, i + 1, d, .cons _ t, e => by
    obtain ⟨u, h1, h2⟩ := dpa_getV (i := i) (u := d) t (by simpa using e)
    exact ⟨u, by simpa using h1, h2⟩
theorem dpa_set {x : V} {d : PyData} (q : Dq K H x d) : ∀ {vs : List V} {ds : List PyData} (n : Nat), DqAll K H vs ds → DqAll K H (vs.set n x) (ds.set n d)
  | _, _, _, .nil => .nil
  | _, _, 0, .cons _ t => .cons q t
  | _, _, n + 1, .cons p t => .cons p (dpa_set q n t)
theorem dpa_rep {vs : List V} {ds : List PyData} (h : DqAll K H vs ds) : ∀ k : Nat, DqAll K H (List.replicate k vs).flatten (List.replicate k ds).flatten
  | 0 => .nil
  | k + 1 => by
    rw [List.replicate_succ, List.replicate_succ, List.flatten_cons, List.flatten_cons]
    exact dpa_app h (dpa_rep h k)

/-! ### a value -/
inductive RW (K : PySem.W.Frag) (fa : Nat → Option Addr) (F : Hp) (ι : List Addr) : V → W → Prop where
  | d {v : V} {x : PyData} (h : Dq K F v x) : RW K fa F ι v (.d x)
  | cell {n : Nat} {a : Addr} (h : ι[n]? = some a) : RW K fa F ι (.ref a) (.cell n)
  | fn {i : Nat} {a : Addr} (h : fa i = some a) : RW K fa F ι (.ref a) (.fn i)
  | known {a : Addr} {ns : List Int} (h : SqL K F a (ns.map V.int)) : RW K fa F ι (.ref a) (.known ns)
structure Own (K : PySem.W.Frag) (F : Hp) (ι : List Addr) (H : Hp) (a : Addr) (xs : List PyData) : Prop where
  ex : ∃ vs, H a = some (.lst vs) ∧ DqAll K F vs xs
  nf : F a = none
  ni : a ∉ ι
inductive RR (K : PySem.W.Frag) (fa : Nat → Option Addr) (F : Hp) (ι : List Addr) (H : Hp) : V → R → Prop where
  | w {v : V} {x : W} (h : RW K fa F ι v x) : RR K fa F ι H v (.w x)
  | own {a : Addr} {xs : List PyData} (h : Own K F ι H a xs) : RR K fa F ι H (.ref a) (.own xs)
  | bor {a : Addr} {xs : List PyData} (h : Own K F ι H a xs) : RR K fa F ι H (.ref a) (.bor xs)

/-- from one moment to a later one -/
structure Stp (F : Hp) (ι : List Addr) (H F' : Hp) (ι' : List Addr) (H' : Hp) : Prop where
  fz : Same F F'
  pre : ∃ more, ι' = ι ++ more ∧ ∀ b ∈ more, H b = none
  ext : ∀ b o, H b = some o → b ∉ ι → H' b = some o
  dom : ∀ b, H' b = none → H b = none
  nof : ∀ b, F b = none → H b ≠ none → b ∉ ι → True
theorem Stp.rfl : Stp F ι H F ι H := ⟨Same.refl _, ⟨[], by simp, by simp⟩, fun _ _ h _ => h, fun _ h => h, fun _ _ _ _ => trivial⟩
theorem Stp.trans {F2 : Hp} {ι2 : List Addr} (x : Stp F ι H F1 ι' H1) (y : Stp F1 ι' H1 F2 ι2 H2) : Stp F ι H F2 ι2 H2 := by
  obtain ⟨m1, e1, n1⟩ := x.pre
  obtain ⟨m2, e2, n2⟩ := y.pre
  refine ⟨x.fz.trans y.fz, ⟨m1 ++ m2, by rw [e2, e1, List.append_assoc], fun b hb => ?_⟩, fun b o h n => ?_, fun b h => x.dom b (y.dom b h), fun _ _ _ _ => trivial⟩
  · rcases List.mem_append.mp hb with q | q
    · exact n1 b q
    · exact x.dom b (n2 b q)
  · refine y.ext b o (x.ext b o h n) fun q => ?_
    rw [e1] at q
    rcases List.mem_append.mp q with q | q
    · exact n q
    · rw [n1 b q] at h
      cases h
theorem Stp.iget (x : Stp F ι H F' ι' H') {n : Nat} (h : ι[n]? = some a) : ι'[n]? = some a := by
  obtain ⟨m, e, _⟩ := x.pre
  rw [e, List.getElem?_append_left (List.getElem?_eq_some_iff.mp h).1]
  exact h
theorem Stp.imem (x : Stp F ι H F' ι' H') (h : a ∈ ι') : a ∈ ι ∨ H a = none := by
  obtain ⟨m, e, n⟩ := x.pre
  rw [e] at h
  rcases List.mem_append.mp h with q | q
  · exact .inl q
  · exact .inr (n _ q)
theorem RW.mono (x : Stp F ι H F' ι' H') {w : W} (h : RW K fa F ι v w) : RW K fa F' ι' v w := by
  cases h with
  | d q => exact .d (dp_mono x.fz _ _ q)
  | cell q => exact .cell (x.iget q)
  | fn q => exact .fn q
  | known q => exact .known (x.fz.seq q)

/-! ### the state -/
structure Ent where
  F : Hp
  ι : List Addr
  H : Hp
  res : Addr → Prop
def OwnAt (s : S) (i : Nat) (xs : List PyData) : Prop := s.sl[i]? = some (some (.own xs))
structure Stt (K : PySem.W.Frag) (fa : Nat → Option Addr) (E : Ent) (F : Hp) (ι : List Addr) (s : S) (σ : L2.St) (H : Hp) : Prop where
  sub : Same F H
  step : Stp E.F E.ι E.H F ι H
  nofz : ∀ b o, F b = some o → E.F b = some o ∨ E.H b = none
  len : σ.length = s.sl.length
  slot : ∀ (i : Nat) (r : R), s.sl[i]? = some (some r) → ∃ v : V, σ[i]? = some (some v) ∧ RR K fa F ι H v r ∧ (∀ xs, r ≠ .bor xs)
  new : ∀ (i : Nat) (xs : List PyData) (a : Addr), OwnAt s i xs → σ[i]? = some (some (.ref a)) → E.H a = none
  dist : ∀ (i j : Nat) (xs ys : List PyData), i ≠ j → OwnAt s i xs → OwnAt s j ys → σ[i]? ≠ σ[j]?
  st : ∀ (n : Nat) (xs : List PyData), s.st[n]? = some xs → ∃ a vs, ι[n]? = some a ∧ H a = some (.lst vs) ∧ DqAll K F vs xs
  nfz : ∀ a ∈ ι, F a = none ∧ H a ≠ none
  stl : s.st.length = ι.length
  nd : ι.Nodup
  res : ∀ b, E.res b → F b = none ∧ H b ≠ none ∧ b ∉ ι ∧ ∀ (i : Nat) (xs : List PyData), OwnAt s i xs → σ[i]? ≠ some (some (.ref b))
/-- a fresh list stands in no slot -/
def Fre (E : Ent) (s : S) (σ : L2.St) (v : V) (r : R) : Prop := ∀ xs a, r = .own xs → v = .ref a → E.H a = none ∧ (∀ (i : Nat) (ys : List PyData), OwnAt s i ys → σ[i]? ≠ some (some v)) ∧ ¬ E.res a
theorem fre_w {E : Ent} {s : S} {σ : L2.St} {w : W} : Fre E s σ v (.w w) := fun _ _ e => by cases e
theorem fre_bor {E : Ent} {s : S} {σ : L2.St} {xs : List PyData} : Fre E s σ v (.bor xs) := fun _ _ e => by cases e

theorem RR.mono (x : Stp F ι H F' ι' H') {r : R} (h : RR K fa F ι H v r) (nf : ∀ a xs, v = .ref a → Own K F ι H a xs → F' a = none) : RR K fa F' ι' H' v r := by
  have ow : ∀ a xs, v = .ref a → Own K F ι H a xs → Own K F' ι' H' a xs := fun a xs ev o => by
    obtain ⟨vs, e1, e2⟩ := o.ex
    refine ⟨⟨vs, x.ext a _ e1 o.ni, dpa_mono x.fz _ _ e2⟩, nf a xs ev o, fun q => ?_⟩
    rcases x.imem q with q | q
    · exact o.ni q
    · rw [e1] at q
      cases q
  cases h with
  | w q => exact .w (q.mono x)
  | own o => exact .own (ow _ _ rfl o)
  | bor o => exact .bor (ow _ _ rfl o)

/-- what may be read as data -/
def Rv (K : PySem.W.Frag) (F H : Hp) (v : V) : PyData → Prop
  | .list xs => ∃ a vs, v = .ref a ∧ H a = some (.lst vs) ∧ DqAll K F vs xs
  | d => Dq K F v d
theorem Rv.of (e : Same F H) {d : PyData} (h : Dq K F v d) : Rv K F H v d := by
  cases d with
  | list xs => cases h with | lst q r => exact ⟨_, _, rfl, e _ _ q, r⟩
  | _ => exact h
theorem Own.rv {xs : List PyData} (o : Own K F ι H a xs) : Rv K F H (.ref a) (.list xs) := by
  obtain ⟨vs, e1, e2⟩ := o.ex
  exact ⟨a, vs, rfl, e1, e2⟩
theorem Stt.rv {E : Ent} {s : S} {σ : L2.St} (S0 : Stt K fa E F ι s σ H) {r : R} {d : PyData} (h : RR K fa F ι H v r) (e : r.dat s.st = some d) : Rv K F H v d := by
  cases h with
  | w q =>
    cases q with
    | d q => cases e; exact Rv.of S0.sub q
    | @cell n a q =>
      cases c : s.st[n]? with
      | none => simp [R.dat, c] at e
      | some xs =>
        simp [R.dat, c] at e
        subst e
        obtain ⟨b, vs, e1, e2, e3⟩ := S0.st n xs c
        rw [q] at e1
        cases e1
        exact ⟨_, vs, rfl, e2, e3⟩
    | fn q => cases e
    | known q => cases e
  | own o => cases e; exact o.rv
  | bor o => cases e; exact o.rv
theorem Rv.dp (e : Same F H) {d : PyData} (h : Rv K F H v d) : Dq K H v d := by
  cases d with
  | list xs =>
    obtain ⟨a, vs, rfl, q, r⟩ := h
    exact .lst q (dpa_mono e _ _ r)
  | none => exact dp_mono e _ _ h
  | bool b => exact dp_mono e _ _ h
  | int i => exact dp_mono e _ _ h
  | str x => exact dp_mono e _ _ h
  | tuple xs => exact dp_mono e _ _ h
  | dict xs => exact dp_mono e _ _ h
theorem Rv.int {i : Int} (h : Rv K F H v (.int i)) : v = .int i := by cases (show Dq K F v (.int i) from h); rfl
theorem Rv.bl {i : Bool} (h : Rv K F H v (.bool i)) : v = .bl i := by cases (show Dq K F v (.bool i) from h); rfl
theorem Rv.str {i : Str} (h : Rv K F H v (.str i)) : v = .str i := by cases (show Dq K F v (.str i) from h); rfl
theorem Rv.tup (e : Same F H) {xs : List PyData} (h : Rv K F H v (.tuple xs)) : ∃ a vs, v = .ref a ∧ SqT K F a vs ∧ SqT K H a vs ∧ DqAll K F vs xs := by
  cases (show Dq K F v (.tuple xs) from h) with | tup q r => exact ⟨_, _, rfl, q, sqT_mono e q, r⟩

/-- a result made at H -/
inductive Mk (K : PySem.W.Frag) (F H : Hp) : R → V → Hp → Prop where
  | old {v : V} {d : PyData} (h : Dq K F v d) : Mk K F H (.w (.d d)) v H
  | tup {p : Addr} {vs : List V} {ds : List PyData} (h : H p = none) (q : DqAll K F vs ds) : Mk K F H (.w (.d (.tuple ds))) (.ref p) (upd H p (.tup vs))
  | lst {p : Addr} {vs : List V} {ds : List PyData} (h : H p = none) (q : DqAll K F vs ds) : Mk K F H (.own ds) (.ref p) (upd H p (.lst vs))

theorem same_upd {p : Addr} {o : HO} (h : H p = none) : Same H (upd H p o) := fun b x e => by
  rw [upd_ne (ne_of_none e h)]
  exact e
theorem upd_sub {p : Addr} {o : HO} (e : Same F H) : Same (upd F p o) (upd H p o) := fun b x q => by
  by_cases hb : b = p
  · subst hb
    rw [upd_same] at q ⊢
    exact q
  · rw [upd_ne hb] at q ⊢
    exact e b x q
section
variable {E : Ent} {s : S} {σ : L2.St}
/-- an object that is none of ours is laid, or changed -/
theorem Stt.side (S0 : Stt K fa E F ι s σ H) {p : Addr} {o : HO} (e1 : E.H p = none) (e2 : F p = none) (e3 : p ∉ ι) (e4 : ∀ (i : Nat) (xs : List PyData), OwnAt s i xs → σ[i]? ≠ some (some (.ref p))) : Stt K fa E F ι s σ (upd H p o) where
  sub := fun b x q => by rw [upd_ne (ne_of_none q e2)]; exact S0.sub b x q
  step := by
    refine ⟨S0.step.fz, S0.step.pre, fun b x q n => ?_, fun b q => ?_, fun _ _ _ _ => trivial⟩
    · rw [upd_ne (ne_of_none q e1)]
      exact S0.step.ext b x q n
    · by_cases hb : b = p
      · rw [hb]; exact e1
      · rw [upd_ne hb] at q
        exact S0.step.dom b q
  nofz := S0.nofz
  len := S0.len
  slot := fun i r h => by
    obtain ⟨v, h1, h2, h3⟩ := S0.slot i r h
    refine ⟨v, h1, ?_, h3⟩
    cases h2 with
    | w q => exact .w q
    | @own a xs o =>
      obtain ⟨vs, q1, q2⟩ := o.ex
      refine .own ⟨⟨vs, ?_, q2⟩, o.nf, o.ni⟩
      rw [upd_ne]
      · exact q1
      · rintro rfl
        exact e4 i xs h h1
    | bor o => exact absurd rfl (h3 _)
  new := S0.new
  dist := S0.dist
  st := fun n xs h => by
    obtain ⟨a, vs, h1, h2, h3⟩ := S0.st n xs h
    refine ⟨a, vs, h1, ?_, h3⟩
    rw [upd_ne]
    · exact h2
    · rintro rfl
      exact e3 (List.mem_of_getElem? h1)
  nfz := fun a ha => by
    refine ⟨(S0.nfz a ha).1, ?_⟩
    rw [upd_ne]
    · exact (S0.nfz a ha).2
    · rintro rfl
      exact e3 ha
  stl := S0.stl
  nd := S0.nd
  res := fun b hb => by
    obtain ⟨h1, h2, h3, h4⟩ := S0.res b hb
    refine ⟨h1, ?_, h3, h4⟩
    by_cases e : b = p
    · rw [e, upd_same]
      exact fun z => by cases z
    · rw [upd_ne e]
      exact h2
theorem Stt.fresh (S0 : Stt K fa E F ι s σ H) {p : Addr} (h : H p = none) : E.H p = none ∧ F p = none ∧ p ∉ ι ∧ (∀ (i : Nat) (xs : List PyData), OwnAt s i xs → σ[i]? ≠ some (some (.ref p))) ∧ ¬ E.res p := by
  refine ⟨S0.step.dom p h, S0.sub.free h, fun q => (S0.nfz p q).2 h, fun i xs o e => ?_, fun z => (S0.res p z).2.1 h⟩
  obtain ⟨v, h1, h2, _⟩ := S0.slot i _ o
  rw [h1] at e
  cases e
  cases h2 with
  | own q =>
    obtain ⟨vs, q1, _⟩ := q.ex
    rw [h] at q1
    cases q1
theorem Stt.lay (S0 : Stt K fa E F ι s σ H) {p : Addr} {o : HO} (h : H p = none) : Stt K fa E F ι s σ (upd H p o) :=
  let ⟨a, b, c, d, _⟩ := S0.fresh h
  S0.side a b c d
theorem Stp.lay {p : Addr} {o : HO} (h : H p = none) : Stp F ι H F ι (upd H p o) :=
  ⟨Same.refl _, ⟨[], by simp, by simp⟩, fun b x q _ => by rw [upd_ne (ne_of_none q h)]; exact q, fun b q => by
    by_cases hb : b = p
    · rw [hb]; exact h
    · rw [upd_ne hb] at q
      exact q, fun _ _ _ _ => trivial⟩
/-- what is known of the frozen part grows -/
theorem Stt.grow (S0 : Stt K fa E F ι s σ H) {p : Addr} {o : HO} (e1 : F p = none) (e2 : H p = some o) (e3 : E.H p = none) (e4 : p ∉ ι) (e5 : ∀ (i : Nat) (xs : List PyData), OwnAt s i xs → σ[i]? ≠ some (some (.ref p))) (e6 : ¬ E.res p) : Stt K fa E (upd F p o) ι s σ H where
  sub := fun b x q => by
    by_cases hb : b = p
    · subst hb
      rw [upd_same] at q
      cases q
      exact e2
    · rw [upd_ne hb] at q
      exact S0.sub b x q
  step := ⟨S0.step.fz.trans (same_upd e1), S0.step.pre, S0.step.ext, S0.step.dom, fun _ _ _ _ => trivial⟩
  nofz := fun b x q => by
    by_cases hb : b = p
    · subst hb
      exact .inr e3
    · rw [upd_ne hb] at q
      exact S0.nofz b x q
  len := S0.len
  slot := fun i r h => by
    obtain ⟨v, h1, h2, h3⟩ := S0.slot i r h
    refine ⟨v, h1, ?_, h3⟩
    cases h2 with
    | w q =>
      refine .w ?_
      cases q with
      | d q => exact .d (dp_mono (same_upd e1) _ _ q)
      | cell q => exact .cell q
      | fn q => exact .fn q
      | known q => exact .known ((same_upd e1).seq q)
    | @own a xs q =>
      obtain ⟨vs, q1, q2⟩ := q.ex
      refine .own ⟨⟨vs, q1, dpa_mono (same_upd e1) _ _ q2⟩, ?_, q.ni⟩
      rw [upd_ne]
      · exact q.nf
      · rintro rfl
        exact e5 i xs h h1
    | bor q => exact absurd rfl (h3 _)
  new := S0.new
  dist := S0.dist
  st := fun n xs h => by
    obtain ⟨a, vs, h1, h2, h3⟩ := S0.st n xs h
    exact ⟨a, vs, h1, h2, dpa_mono (same_upd e1) _ _ h3⟩
  nfz := fun a ha => by
    refine ⟨?_, (S0.nfz a ha).2⟩
    rw [upd_ne]
    · exact (S0.nfz a ha).1
    · rintro rfl
      exact e4 ha
  stl := S0.stl
  nd := S0.nd
  res := fun b hb => by
    obtain ⟨h1, h2, h3, h4⟩ := S0.res b hb
    refine ⟨?_, h2, h3, h4⟩
    rw [upd_ne]
    · exact h1
    · rintro rfl
      exact e6 hb
theorem Stp.grow {p : Addr} {o : HO} (h : F p = none) : Stp F ι H (upd F p o) ι H :=
  ⟨same_upd h, ⟨[], by simp, by simp⟩, fun _ _ q _ => q, fun _ q => q, fun _ _ _ _ => trivial⟩
/-- behind a result that was made -/
theorem Stt.made (S0 : Stt K fa E F ι s σ H) {r : R} (m : Mk K F H r v H') : ∃ F', Stt K fa E F' ι s σ H' ∧ Stp F ι H F' ι H' ∧ RR K fa F' ι H' v r ∧ Fre E s σ v r := by
  cases m with
  | old q => exact ⟨F, S0, Stp.rfl, .w (.d q), fre_w⟩
  | @tup p vs ds h q =>
    obtain ⟨a1, a2, a3, a4, a5⟩ := S0.fresh h
    refine ⟨upd F p (.tup vs), (S0.lay h).grow a2 upd_same a1 a3 a4 a5, (Stp.lay h).trans (Stp.grow a2), .w (.d (.tup (SqT.of upd_same) (dpa_mono (same_upd a2) _ _ q))), fre_w⟩
  | @lst p vs ds h q =>
    obtain ⟨a1, a2, a3, a4, a5⟩ := S0.fresh h
    refine ⟨F, S0.lay h, Stp.lay h, .own ⟨⟨vs, upd_same, q⟩, a2, a3⟩, fun xs a e1 e2 => ?_⟩
    cases e2
    exact ⟨a1, a4, a5⟩
/-- a fresh list is frozen -/
theorem Stt.froze (S0 : Stt K fa E F ι s σ H) {r : R} {w : W} (h : RR K fa F ι H v r) (f : Fre E s σ v r) (e : r.fz = some w) : ∃ F', Stt K fa E F' ι s σ H ∧ Stp F ι H F' ι H ∧ RW K fa F' ι v w := by
  cases h with
  | w q => cases e; exact ⟨F, S0, Stp.rfl, q⟩
  | @own a xs o =>
    cases e
    obtain ⟨vs, e1, e2⟩ := o.ex
    obtain ⟨f1, f2, f3⟩ := f xs a rfl rfl
    exact ⟨upd F a (.lst vs), S0.grow o.nf e1 f1 o.ni f2 f3, Stp.grow o.nf, .d (.lst (upd_same) (dpa_mono (same_upd o.nf) _ _ e2))⟩
  | bor o => cases e
end
end
end Xp

/-! EnM: a tuple, once. -/
namespace Xp
open PySem PySem.Spec PyProof.Rows L2
theorem tuple_mul1 (l : Addr) (items : Array Value) (n : Nat) (dd : Option Addr) (sl : Array (Option Value)) (u : Tok) :
    Meets (Builtin.«tuple.__mul__» ⟨[.ref l, .int 1 u], []⟩) (fun _ R s => s.heap.get? l = some { cls := .type "tuple", dict := dd, data := .seq items n, slots := sl } ∧
      R (.ok (.ret (Value.ref l))) s) :=
  .of_wp fun prog w A R s h => by
    obtain ⟨hp, g, d, tk, os⟩ := s
    obtain ⟨hl, h⟩ := h
    have f1 := AutoSeq1.idx_int
    have c0 : (decide ((1 : Int) < -(2 ^ 63)) || decide ((1 : Int) ≥ 2 ^ 63)) = false := by decide
    have c1 : (items.isEmpty || ((1 : Int) == 1)) = true := by simp
    wp_walk using wpAny_loadPart' hl
    repeat (first
      | (refine wpAny_ite_false (decide_eq_false (by rw [c0]; exact Bool.false_ne_true)) ?_; wp_walk using wpAny_loadPart' hl)
      | (refine wpAny_ite_true (decide_eq_true (by rw [c1])) ?_; wp_walk using wpAny_loadPart' hl))
    exact ⟨_, rfl, h⟩
def rRepT1 (K : PySem.W.Frag) : R2 := fun x y H Q => ∃ l xs, x = .ref l ∧ y = .int 1 ∧ SqT K H l xs ∧ Q (.ref l) H
section
variable {X : Cx}
theorem op_repT1 : OpR X (binaryOp .Mult) (rRepT1 X.K) := by
  intro pins s σ H x y v u Q I rx ry h
  obtain ⟨l, xs, rfl, rfl, hT, q⟩ := h
  have rx' := rx
  cases rx
  obtain ⟨t, rfl⟩ := ry
  obtain ⟨its, r, ⟨⟨cls, dd, data, sl⟩, ho, hc, n, hd⟩, hs⟩ := I.tuple hT
  simp only at hc hd
  subst hc hd
  refine wpAny_binaryOp_repeat_ref (T := "tuple") (U := "int") (by decide) ⟨_, ho, rfl⟩ (fun s' => typeIs_int s' 1 t) noFill_tuple_mul F.fills_int_mul F.slot_int_rmul repeat_tuple F.slot_int_index.lookup
    (call_meets F.slot_int_rmul (typeIs_int s 1 t) F.entry_int_rmul (F.args_int_rmul_2 _ _) (int_rmul_tuple 1 t l its.toArray n dd sl)
      ⟨ho, rfl, ⟨_, ho, rfl⟩, call_meets F.slot_tuple_mul ⟨_, ho, rfl⟩ F.entry_tuple_mul (F.args_tuple_mul_2 _ _) (tuple_mul1 l its.toArray n dd sl t) ⟨ho, ?_⟩⟩)
  exact ⟨.ref l, _, I, rx', q⟩
theorem tuple_mul0 (l : Addr) (items : Array Value) (n : Nat) (dd : Option Addr) (sl : Array (Option Value)) (u : Tok) (hi : items.isEmpty = false) :
    Meets (Builtin.«tuple.__mul__» ⟨[.ref l, .int 0 u], []⟩) (fun _ R s => s.heap.get? l = some { cls := .type "tuple", dict := dd, data := .seq items n, slots := sl } ∧
      R (.ok (.ret (Value.ref s.heap.objs.size))) { s with heap := s.heap.push { cls := Value.type "tuple", data := Data.seq #[] }, toks := s.toks }) :=
  .of_wp fun prog w A R s h => by
    obtain ⟨hp, g, d, tk, os⟩ := s
    obtain ⟨hl, h⟩ := h
    have f1 := AutoSeq1.idx_int
    have c0 : (decide ((0 : Int) < -(2 ^ 63)) || decide ((0 : Int) ≥ 2 ^ 63)) = false := by decide
    have c1 : (items.isEmpty || ((0 : Int) == 1)) = false := by rw [hi]; rfl
    have c2 : (decide ((0 : Int) ≤ 0) || items.isEmpty) = true := by simp
    wp_walk using wpAny_loadPart' hl
    repeat (first
      | (refine wpAny_ite_false (decide_eq_false (by rw [c0]; exact Bool.false_ne_true)) ?_; wp_walk using wpAny_loadPart' hl)
      | (refine wpAny_ite_false (decide_eq_false (by rw [c1]; exact Bool.false_ne_true)) ?_; wp_walk using wpAny_loadPart' hl)
      | (refine wpAny_ite_true (decide_eq_true (by rw [c2])) ?_; wp_walk using wpAny_loadPart' hl))
    exact ⟨_, rfl, h⟩
def rRepT0 (K : PySem.W.Frag) : R2 := fun x y H Q => ∃ l xs, x = .ref l ∧ y = .int 0 ∧ SqT K H l xs ∧ xs ≠ [] ∧ ∀ p, H p = none → Q (.ref p) (upd H p (.tup []))
theorem op_repT0 : OpR X (binaryOp .Mult) (rRepT0 X.K) := by
  intro pins s σ H x y v u Q I rx ry h
  obtain ⟨l, xs, rfl, rfl, hT, hne, q⟩ := h
  cases rx
  obtain ⟨t, rfl⟩ := ry
  obtain ⟨its, r, ⟨⟨cls, dd, data, sl⟩, ho, hc, n, hd⟩, hs⟩ := I.tuple hT
  simp only at hc hd
  subst hc hd
  have hle : its.length = xs.length := r.length.symm
  have hn : its ≠ [] := fun e => hne (by
    rw [e] at hle
    exact List.eq_nil_of_length_eq_zero hle.symm)
  have hi : its.toArray.isEmpty = false := by
    cases its with
    | nil => exact absurd rfl hn
    | cons a b => rfl
  refine wpAny_binaryOp_repeat_ref (T := "tuple") (U := "int") (by decide) ⟨_, ho, rfl⟩ (fun s' => typeIs_int s' 0 t) noFill_tuple_mul F.fills_int_mul F.slot_int_rmul repeat_tuple F.slot_int_index.lookup
    (call_meets F.slot_int_rmul (typeIs_int s 0 t) F.entry_int_rmul (F.args_int_rmul_2 _ _) (int_rmul_tuple 0 t l its.toArray n dd sl)
      ⟨ho, rfl, ⟨_, ho, rfl⟩, call_meets F.slot_tuple_mul ⟨_, ho, rfl⟩ F.entry_tuple_mul (F.args_tuple_mul_2 _ _) (tuple_mul0 l its.toArray n dd sl t hi) ⟨ho, ?_⟩⟩)
  refine ⟨.ref s.heap.objs.size, _, I.laid (t' := s.toks) (o := .tup []) (fun b ob q => Heap.get?_push_of_some _ q) (Nat.le_refl _) ?_, rfl, q _ (I.hok.fresh (Nat.le_refl _))⟩
  exact ⟨by rw [sizeLine_eq]; exact Nat.zero_le _, _, .nil, IsTup.new _ _⟩
end
end Xp

/-! E3: the operations, by values. -/
namespace Xp
open PySem PySem.Spec PyProof.Rows L2

def boO : Bo → Operator
  | .add => .Add | .sub => .Sub | .mul => .Mult | .fdiv => .FloorDiv | .mod => .Mod | .pow => .Pow
def rB (K : PySem.W.Frag) (o : Bo) : R2 := fun x y H Q => ∃ F p q r, Same F H ∧ Rv K F H x p ∧ Rv K F H y q ∧ bin2 o p q = some r ∧ ∀ v H', Mk K F H r v H' → Q v H'
section
variable {X : Cx} {pins : List (Addr × Obj)} {σ : L2.St} {H : Hp} {s : Shared} {a : Addr} {xs ys : List V}
theorem ite_some {α : Type} {c : Prop} [Decidable c] {x y : α} (h : (if c then some x else none) = some y) : c ∧ x = y := by
  by_cases q : c
  · rw [if_pos q] at h
    exact ⟨q, Option.some.inj h⟩
  · rw [if_neg q] at h
    cases h
theorem mulOk_ok {i j : Int} (h : mulOk i j = true) : IntMulOk i j := by
  unfold mulOk at h
  simp only [Bool.or_eq_true, decide_eq_true_eq] at h
  rcases h with (h | h) | h
  · exact CMul.ok (.inl ⟨by omega, by omega⟩)
  · exact CMul.ok (.inr ⟨by omega, by omega⟩)
  · exact CMulW.ok h
theorem sizeL : (sizeLine : Nat) = 16777216 := sizeLine_eq

theorem op_bin (o : Bo) : OpR X (binaryOp (boO o)) (rB X.K o) := by
  intro pins s σ H x y v u Q I rx ry h
  obtain ⟨F, p, q, r, e, hp, hq, hr, k⟩ := h
  unfold bin2 at hr
  split at hr
  · cases Option.some.inj hr
    exact op_add pins s σ H x y v u Q I rx ry ⟨_, _, hp.int, hq.int, k _ _ (.old (.int _))⟩
  · obtain ⟨c, hr⟩ := ite_some hr
    cases hr
    exact op_add_str pins s σ H x y v u Q I rx ry ⟨_, _, hp.str, hq.str, by rw [sizeL]; exact c, k _ _ (.old (.str _))⟩
  · obtain ⟨c, hr⟩ := ite_some hr
    cases hr
    obtain ⟨a1, v1, rfl, f1, t1, q1⟩ := hp.tup e
    obtain ⟨a2, v2, rfl, f2, t2, q2⟩ := hq.tup e
    refine op_catA pins s σ H _ _ v u Q I rx ry ⟨_, _, _, _, rfl, rfl, t1, t2, by rw [sizeL, dpa_len q1, dpa_len q2]; exact c, fun z => ?_, fun z z2 => ?_, fun z z2 p hp => ?_⟩
    · subst z
      cases q1
      exact k _ _ (.old (.tup f2 q2))
    · subst z2
      cases q2
      refine k _ _ (.old ?_)
      rw [List.append_nil]
      exact .tup f1 q1
    · exact k _ _ (.tup hp (dpa_app q1 q2))
  · obtain ⟨c, hr⟩ := ite_some hr
    cases hr
    obtain ⟨a1, v1, rfl, t1, q1⟩ := hp
    obtain ⟨a2, v2, rfl, t2, q2⟩ := hq
    exact op_cat pins s σ H _ _ v u Q I rx ry ⟨_, _, _, _, rfl, rfl, t1, t2, by rw [sizeL, dpa_len q1, dpa_len q2]; exact c, fun p hp => k _ _ (.lst hp (dpa_app q1 q2))⟩
  · cases Option.some.inj hr
    exact op_sub pins s σ H x y v u Q I rx ry ⟨_, _, hp.int, hq.int, k _ _ (.old (.int _))⟩
  · obtain ⟨c, hr⟩ := ite_some hr
    cases hr
    cases hp.int
    cases hq.int
    obtain ⟨t, rfl⟩ := rx
    obtain ⟨t', rfl⟩ := ry
    exact mul_int ⟨.int _, H, I.tok _, ⟨_, rfl⟩, k _ _ (.old (.int _))⟩ (mulOk_ok c)
  · obtain ⟨⟨c1, c2, c3, c4⟩, hr⟩ := ite_some hr
    cases hr
    obtain ⟨a1, v1, rfl, f1, t1, q1⟩ := hp.tup e
    cases hq.int
    have c0 := c1
    rcases Int.lt_or_eq_of_le c0 with c1 | c1
    rotate_left
    · subst c1
      refine op_repT0 pins s σ H _ _ v u Q I rx ry ⟨_, _, rfl, rfl, t1, ?_, fun p hp => k _ _ (.tup hp (dpa_rep q1 0))⟩
      intro z
      subst z
      cases q1
      exact c3 rfl
    rcases Int.lt_or_eq_of_le (show 1 ≤ _ from c1) with c1 | c1
    rotate_left
    · subst c1
      refine op_repT1 pins s σ H _ _ v u Q I rx ry ⟨_, _, rfl, rfl, t1, k _ _ (.old ?_)⟩
      show Dq _ _ _ (.tuple (List.replicate 1 _).flatten)
      simp only [List.replicate_one, List.flatten_singleton]
      exact .tup f1 q1
    refine op_repT pins s σ H _ _ v u Q I rx ry ⟨_, _, _, rfl, rfl, t1, ?_, by omega, c2, by rw [dpa_len q1]; exact c4, fun p hp => k _ _ (.tup hp (dpa_rep q1 _))⟩
    intro z
    subst z
    cases q1
    exact c3 rfl
  · obtain ⟨⟨c1, c2, c3⟩, hr⟩ := ite_some hr
    cases hr
    obtain ⟨a1, v1, rfl, t1, q1⟩ := hp
    cases hq.int
    refine op_rep pins s σ H _ _ v u Q I rx ry ⟨_, _, _, rfl, rfl, t1, by omega, by omega, ?_, fun p hp => k _ _ (.lst hp (dpa_rep q1 _))⟩
    rw [dpa_len q1, sizeL]
    exact Nat.le_trans (Nat.mul_le_mul c3 (show _ ≤ 1000 by omega)) (by decide)
  · obtain ⟨c, hr⟩ := ite_some hr
    cases hr
    unfold divOk at c
    simp only [Bool.and_eq_true, decide_eq_true_eq] at c
    cases hp.int
    cases hq.int
    obtain ⟨t, rfl⟩ := rx
    obtain ⟨t', rfl⟩ := ry
    exact floordiv_int c.1 ⟨.int _, H, I.tok _, ⟨_, rfl⟩, k _ _ (.old (.int _))⟩ (.inl (PyProof.noPylong_of_log2 c.2))
  · obtain ⟨c, hr⟩ := ite_some hr
    cases hr
    exact op_modN pins s σ H x y v u Q I rx ry ⟨_, _, hp.int, hq.int, c, k _ _ (.old (.int _))⟩
  · obtain ⟨⟨c1, c2, c3⟩, hr⟩ := ite_some hr
    cases hr
    exact op_pow pins s σ H x y v u Q I rx ry ⟨_, _, hp.int, hq.int, ⟨c1, by omega, c3⟩, k _ _ (.old (.int _))⟩
  · cases hr

/-! ### comparisons -/
def coO : Co → CmpOp
  | .eq => .Eq | .ne => .NotEq | .lt => .Lt | .le => .LtE | .gt => .Gt | .ge => .GtE | .isn => .Is | .notn => .IsNot | .isb => .Is | .notb => .IsNot | .isin => .In | .notin => .NotIn
def rC (K : PySem.W.Frag) (o : Co) : R2 := fun x y H Q => ∃ F p q b, Same F H ∧ Rv K F H x p ∧ Rv K F H y q ∧ cmp2 o p q = some b ∧ Q (.bl b) H
theorem isNon {F : Hp} {x : V} {K : PySem.W.Frag} {p : PyData} (h : Rv K F H x p) : decide (x = .non) = nonB p := by
  cases p with
  | none => cases (show Dq K F x .none from h); rfl
  | bool b => rw [h.bl]; rfl
  | int b => rw [h.int]; rfl
  | str b => rw [h.str]; rfl
  | list b => obtain ⟨_, _, rfl, _⟩ := h; rfl
  | tuple b => cases (show Dq K F x (.tuple b) from h); rfl
  | dict b => cases (show Dq K F x (.dict b) from h)
theorem op_cmp (hu : X.A.units + 65 < cLine) (o : Co) : OpR X (compareOp (coO o)) (rC X.K o) := by
  intro pins s σ H x y v u Q I rx ry h
  obtain ⟨F, p, q, b, e, hp, hq, hr, k⟩ := h
  unfold cmp2 at hr
  split at hr
  · cases Option.some.inj hr
    refine op_eq pins s σ H x y v u Q I rx ry ?_
    rw [hp.str, hq.str]
    refine ⟨rfl, ?_⟩
    rw [dec_str]
    exact k
  · cases Option.some.inj hr
    refine op_ne pins s σ H x y v u Q I rx ry ?_
    rw [hp.str, hq.str]
    refine ⟨rfl, ?_⟩
    rw [dec_str]
    exact k
  · obtain ⟨c, hr⟩ := ite_some hr
    subst hr
    rw [Bool.and_eq_true] at c
    exact op_eqD (by omega) pins s σ H x y v u Q I rx ry ⟨_, _, dq_dp _ _ (hp.dp e), dq_dp _ _ (hq.dp e), c.1, c.2, k⟩
  · obtain ⟨c, hr⟩ := ite_some hr
    subst hr
    rw [Bool.and_eq_true] at c
    exact op_neD (by omega) pins s σ H x y v u Q I rx ry ⟨_, _, dq_dp _ _ (hp.dp e), dq_dp _ _ (hq.dp e), c.1, c.2, k⟩
  · cases Option.some.inj hr
    exact op_lt pins s σ H x y v u Q I rx ry ⟨_, _, hp.int, hq.int, k⟩
  · cases Option.some.inj hr
    exact op_le pins s σ H x y v u Q I rx ry ⟨_, _, hp.int, hq.int, k⟩
  · cases Option.some.inj hr
    exact op_gt pins s σ H x y v u Q I rx ry ⟨_, _, hp.int, hq.int, k⟩
  · cases Option.some.inj hr
    exact op_ge pins s σ H x y v u Q I rx ry ⟨_, _, hp.int, hq.int, k⟩
  · have e1 := isNon hp
    have e2 := Option.some.inj hr
    have e3 : y = .non := by cases (show Dq X.K F y .none from hq); rfl
    refine op_isN pins s σ H x y v u Q I rx ry ⟨e3, ?_⟩
    rw [e1, e2]
    exact k
  · have e1 := isNon hp
    have e2 := Option.some.inj hr
    have e3 : y = .non := by cases (show Dq X.K F y .none from hq); rfl
    refine op_notN pins s σ H x y v u Q I rx ry ⟨e3, ?_⟩
    rw [e1]
    rw [e2]
    exact k
  · cases Option.some.inj hr
    exact op_isBl pins s σ H x y v u Q I rx ry ⟨_, _, hp.bl, hq.bl, k⟩
  · cases Option.some.inj hr
    exact op_notBl pins s σ H x y v u Q I rx ry ⟨_, _, hp.bl, hq.bl, k⟩
  · cases q with
    | list zs =>
      simp only [seqOf, Option.bind_some] at hr
      unfold inD at hr
      obtain ⟨c, hr⟩ := ite_some hr
      subst hr
      rw [Bool.and_eq_true] at c
      exact op_inD hu pins s σ H x y v u Q I rx ry ⟨_, _, dq_dp _ _ (hp.dp e), dq_dp _ _ (hq.dp e), c.1, c.2, k⟩
    | tuple zs =>
      simp only [seqOf, Option.bind_some] at hr
      unfold inD at hr
      obtain ⟨c, hr⟩ := ite_some hr
      subst hr
      rw [Bool.and_eq_true] at c
      obtain ⟨as, r1⟩ := Dp.reads I p x v (dq_dp _ _ (hp.dp e)) rx
      obtain ⟨bs, r2⟩ := Dp.reads I (.tuple zs) y u (dq_dp _ _ (hq.dp e)) ry
      exact SeqAt.in_tuple_reads r2 r1 (SeqAt.canLay_of_shaped c.2) (SeqAt.canLay_of_shaped c.1) (room_in_shaped c.1 hu) ⟨.bl _, H, I, rfl, k⟩
    | _ => cases hr
  · cases q with
    | list zs =>
      simp only [seqOf, Option.bind_some, Option.map_eq_some_iff] at hr
      obtain ⟨b0, hr, e0⟩ := hr
      unfold inD at hr
      obtain ⟨c, hr⟩ := ite_some hr
      subst hr
      subst e0
      rw [Bool.and_eq_true] at c
      exact op_notInD hu pins s σ H x y v u Q I rx ry ⟨_, _, dq_dp _ _ (hp.dp e), dq_dp _ _ (hq.dp e), c.1, c.2, k⟩
    | tuple zs =>
      simp only [seqOf, Option.bind_some, Option.map_eq_some_iff] at hr
      obtain ⟨b0, hr, e0⟩ := hr
      unfold inD at hr
      obtain ⟨c, hr⟩ := ite_some hr
      subst hr
      subst e0
      rw [Bool.and_eq_true] at c
      obtain ⟨as, r1⟩ := Dp.reads I p x v (dq_dp _ _ (hp.dp e)) rx
      obtain ⟨bs, r2⟩ := Dp.reads I (.tuple zs) y u (dq_dp _ _ (hq.dp e)) ry
      exact SeqAt.notIn_tuple_reads r2 r1 (SeqAt.canLay_of_shaped c.2) (SeqAt.canLay_of_shaped c.1) (room_in_shaped c.1 hu) ⟨.bl _, H, I, rfl, k⟩
    | _ => cases hr
  · cases hr
end
end Xp

/-! E4: built-in functions, subscripts, slices, by values. -/
namespace Xp
open PySem PySem.Spec PyProof.Rows L2

theorem ints_eq : ∀ {xs : List PyData} {ns : List Int}, intsOf xs = some ns → xs = ns.map .int
  | [], ns, h => by cases h; rfl
  | .int a :: r, ns, h => by
    simp only [intsOf, Option.map_eq_some_iff] at h
    obtain ⟨m, h1, rfl⟩ := h
    rw [ints_eq h1]
    rfl
  | .none :: _, _, h => by cases h
  | .bool _ :: _, _, h => by cases h
  | .str _ :: _, _, h => by cases h
  | .list _ :: _, _, h => by cases h
  | .tuple _ :: _, _, h => by cases h
  | .dict _ :: _, _, h => by cases h
theorem bls_eq : ∀ {xs : List PyData} {ns : List Bool}, blsOf xs = some ns → xs = ns.map .bool
  | [], ns, h => by cases h; rfl
  | .bool a :: r, ns, h => by
    simp only [blsOf, Option.map_eq_some_iff] at h
    obtain ⟨m, h1, rfl⟩ := h
    rw [bls_eq h1]
    rfl
  | .none :: _, _, h => by cases h
  | .int _ :: _, _, h => by cases h
  | .str _ :: _, _, h => by cases h
  | .list _ :: _, _, h => by cases h
  | .tuple _ :: _, _, h => by cases h
  | .dict _ :: _, _, h => by cases h
theorem strs_eq : ∀ {xs : List PyData} {ns : List Str}, strsOf xs = some ns → xs = ns.map .str
  | [], ns, h => by cases h; rfl
  | .str a :: r, ns, h => by
    simp only [strsOf, Option.map_eq_some_iff] at h
    obtain ⟨m, h1, rfl⟩ := h
    rw [strs_eq h1]
    rfl
  | .none :: _, _, h => by cases h
  | .int _ :: _, _, h => by cases h
  | .bool _ :: _, _, h => by cases h
  | .list _ :: _, _, h => by cases h
  | .tuple _ :: _, _, h => by cases h
  | .dict _ :: _, _, h => by cases h
section
variable {K : PySem.W.Frag} {F H : Hp}
theorem dqa_ints : ∀ {ns : List Int} {vs : List V}, DqAll K F vs (ns.map .int) → vs = ns.map V.int
  | [], _, h => by cases h; rfl
  | n :: ns, _, h => by
    cases h with
    | cons q r =>
      cases q
      rw [dqa_ints r]
      rfl
theorem dqa_bls : ∀ {ns : List Bool} {vs : List V}, DqAll K F vs (ns.map .bool) → vs = ns.map V.bl
  | [], _, h => by cases h; rfl
  | n :: ns, _, h => by
    cases h with
    | cons q r =>
      cases q
      rw [dqa_bls r]
      rfl
theorem dqa_strs : ∀ {ns : List Str} {vs : List V}, DqAll K F vs (ns.map .str) → vs = ns.map V.str
  | [], _, h => by cases h; rfl
  | n :: ns, _, h => by
    cases h with
    | cons q r =>
      cases q
      rw [dqa_strs r]
      rfl
theorem dqa_of_ints : ∀ {ns : List Int}, DqAll K F (ns.map V.int) (ns.map .int)
  | [] => .nil
  | n :: ns => .cons (.int n) dqa_of_ints
end
theorem greatest_of : ∀ {ns : List Int} {g : Int}, greatest ns = some g → g ∈ ns ∧ ∀ y ∈ ns, y ≤ g
  | [], _, h => by cases h
  | [a], g, h => by cases h; simp
  | a :: b :: r, g, h => by
    simp only [greatest, Option.map_eq_some_iff] at h
    obtain ⟨m, h1, rfl⟩ := h
    obtain ⟨q1, q2⟩ := greatest_of (ns := b :: r) h1
    refine ⟨?_, fun y hy => ?_⟩
    · split
      · exact List.mem_cons_of_mem _ q1
      · exact List.mem_cons_self
    · rcases List.mem_cons.mp hy with rfl | hy
      · split <;> omega
      · have := q2 y hy
        split <;> omega
theorem least_of : ∀ {ns : List Int} {g : Int}, least ns = some g → g ∈ ns ∧ ∀ y ∈ ns, g ≤ y
  | [], _, h => by cases h
  | [a], g, h => by cases h; simp
  | a :: b :: r, g, h => by
    simp only [least, Option.map_eq_some_iff] at h
    obtain ⟨m, h1, rfl⟩ := h
    obtain ⟨q1, q2⟩ := least_of (ns := b :: r) h1
    refine ⟨?_, fun y hy => ?_⟩
    · split
      · exact List.mem_cons_of_mem _ q1
      · exact List.mem_cons_self
    · rcases List.mem_cons.mp hy with rfl | hy
      · split <;> omega
      · have := q2 y hy
        split <;> omega
theorem insI_perm (a : Int) : ∀ l : List Int, (insI a l).Perm (a :: l)
  | [] => List.Perm.refl _
  | b :: r => by
    unfold insI
    split
    · exact List.Perm.refl _
    · exact ((insI_perm a r).cons b).trans (List.Perm.swap a b r)
theorem sortI_perm : ∀ l : List Int, (sortI l).Perm l
  | [] => List.Perm.refl _
  | a :: r => (insI_perm a (sortI r)).trans ((sortI_perm r).cons a)
theorem insI_sorted (a : Int) : ∀ {l : List Int}, l.Pairwise (· ≤ ·) → (insI a l).Pairwise (· ≤ ·)
  | [], _ => by simp [insI]
  | b :: r, h => by
    obtain ⟨h1, h2⟩ := List.pairwise_cons.mp h
    unfold insI
    split
    · refine List.pairwise_cons.mpr ⟨fun x hx => ?_, h⟩
      rcases List.mem_cons.mp hx with rfl | hx
      · assumption
      · have := h1 x hx
        omega
    · refine List.pairwise_cons.mpr ⟨fun x hx => ?_, insI_sorted a h2⟩
      rcases List.mem_cons.mp ((insI_perm a r).mem_iff.mp hx) with rfl | hx
      · omega
      · exact h1 x hx
theorem sortI_sorted : ∀ l : List Int, (sortI l).Pairwise (· ≤ ·)
  | [] => List.Pairwise.nil
  | a :: r => insI_sorted a (sortI_sorted r)

def rU (K : PySem.W.Frag) (f : U1) : List V → Hp → VK → Prop := fun xs H Q => ∃ x F p r, xs = [x] ∧ Same F H ∧ Rv K F H x p ∧ un1 f p = some r ∧ ∀ v H', Mk K F H r v H' → Q v H'
def rU2 (K : PySem.W.Frag) (f : U2) : List V → Hp → VK → Prop := fun xs H Q => ∃ x y F p q r, xs = [x, y] ∧ Same F H ∧ Rv K F H x p ∧ Rv K F H y q ∧ un2 f p q = some r ∧ ∀ v H', Mk K F H r v H' → Q v H'
section
variable {X : Cx}
theorem cu_len : CallR X (.builtin "len") (rU X.K .len) := by
  intro pins s σ H xs us Q I r h
  obtain ⟨x, F, p, res, rfl, e, hp, hr, k⟩ := h
  cases p with
  | list zs =>
    cases Option.some.inj hr
    obtain ⟨a, vs, rfl, t, q⟩ := hp
    exact call_len_seq pins s σ H _ us Q I r ⟨_, _, rfl, .inl (SqL.of t), by rw [dpa_len q]; exact k _ _ (.old (.int _))⟩
  | tuple zs =>
    cases Option.some.inj hr
    obtain ⟨a, vs, rfl, _, t, q⟩ := hp.tup e
    exact call_len_seq pins s σ H _ us Q I r ⟨_, _, rfl, .inr t, by rw [dpa_len q]; exact k _ _ (.old (.int _))⟩
  | _ => cases hr
theorem cu_abs : CallR X (.builtin "abs") (rU X.K .abs) := by
  intro pins s σ H xs us Q I r h
  obtain ⟨x, F, p, res, rfl, e, hp, hr, k⟩ := h
  cases p with
  | int i =>
    cases Option.some.inj hr
    cases hp.int
    exact call_abs pins s σ H _ us Q I r ⟨_, rfl, k _ _ (.old (.int _))⟩
  | _ => cases hr
theorem cu_max (hc : X.calm = true) : CallR X (.builtin "max") (rU X.K .maxl) := by
  intro pins s σ H xs us Q I r h
  obtain ⟨x, F, p, res, rfl, e, hp, hr, k⟩ := h
  cases p with
  | list zs =>
    simp only [un1, Option.map_eq_some_iff, Option.bind_eq_some_iff] at hr
    obtain ⟨g, ⟨ns, h1, h2⟩, rfl⟩ := hr
    have e1 := ints_eq h1
    subst e1
    obtain ⟨a, vs, rfl, t, q⟩ := hp
    cases dqa_ints q
    obtain ⟨g1, g2⟩ := greatest_of h2
    refine cr_max hc pins s σ H _ us Q I r ⟨_, ns, rfl, SqL.of t, List.length_pos_of_mem g1, fun m hm hle => ?_⟩
    have : m = g := Int.le_antisymm (g2 m hm) (hle g g1)
    rw [this]
    exact k _ _ (.old (.int _))
  | _ => cases hr
theorem cu_min (hc : X.calm = true) : CallR X (.builtin "min") (rU X.K .minl) := by
  intro pins s σ H xs us Q I r h
  obtain ⟨x, F, p, res, rfl, e, hp, hr, k⟩ := h
  cases p with
  | list zs =>
    simp only [un1, Option.map_eq_some_iff, Option.bind_eq_some_iff] at hr
    obtain ⟨g, ⟨ns, h1, h2⟩, rfl⟩ := hr
    have e1 := ints_eq h1
    subst e1
    obtain ⟨a, vs, rfl, t, q⟩ := hp
    cases dqa_ints q
    obtain ⟨g1, g2⟩ := least_of h2
    refine cr_min hc pins s σ H _ us Q I r ⟨_, ns, rfl, SqL.of t, List.length_pos_of_mem g1, fun m hm hle => ?_⟩
    have : m = g := Int.le_antisymm (hle g g1) (g2 m hm)
    rw [this]
    exact k _ _ (.old (.int _))
  | _ => cases hr
theorem cu_sum (hc : X.calm = true) : CallR X (.builtin "sum") (rU X.K .sum) := by
  intro pins s σ H xs us Q I r h
  obtain ⟨x, F, p, res, rfl, e, hp, hr, k⟩ := h
  cases p with
  | list zs =>
    simp only [un1, Option.map_eq_some_iff] at hr
    obtain ⟨ns, h1, rfl⟩ := hr
    have e1 := ints_eq h1
    subst e1
    obtain ⟨a, vs, rfl, t, q⟩ := hp
    cases dqa_ints q
    exact cr_sum hc pins s σ H _ us Q I r ⟨_, ns, rfl, SqL.of t, k _ _ (.old (.int _))⟩
  | _ => cases hr
theorem cu_any (hc : X.calm = true) : CallR X (.builtin "any") (rU X.K .any) := by
  intro pins s σ H xs us Q I r h
  obtain ⟨x, F, p, res, rfl, e, hp, hr, k⟩ := h
  cases p with
  | list zs =>
    simp only [un1, Option.map_eq_some_iff] at hr
    obtain ⟨ns, h1, rfl⟩ := hr
    have e1 := bls_eq h1
    subst e1
    obtain ⟨a, vs, rfl, t, q⟩ := hp
    cases dqa_bls q
    exact cr_any hc pins s σ H _ us Q I r ⟨_, ns, rfl, SqL.of t, k _ _ (.old (.bl _))⟩
  | _ => cases hr
theorem cu_all (hc : X.calm = true) : CallR X (.builtin "all") (rU X.K .all) := by
  intro pins s σ H xs us Q I r h
  obtain ⟨x, F, p, res, rfl, e, hp, hr, k⟩ := h
  cases p with
  | list zs =>
    simp only [un1, Option.map_eq_some_iff] at hr
    obtain ⟨ns, h1, rfl⟩ := hr
    have e1 := bls_eq h1
    subst e1
    obtain ⟨a, vs, rfl, t, q⟩ := hp
    cases dqa_bls q
    exact cr_all hc pins s σ H _ us Q I r ⟨_, ns, rfl, SqL.of t, k _ _ (.old (.bl _))⟩
  | _ => cases hr
theorem cu_sorted : CallR X (.builtin "sorted") (rU X.K .sorted) := by
  intro pins s σ H xs us Q I r h
  obtain ⟨x, F, p, res, rfl, e, hp, hr, k⟩ := h
  cases p with
  | list zs =>
    simp only [un1, Option.map_eq_some_iff] at hr
    obtain ⟨ns, h1, rfl⟩ := hr
    have e1 := ints_eq h1
    subst e1
    obtain ⟨a, vs, rfl, t, q⟩ := hp
    cases dqa_ints q
    refine cr_sortedI pins s σ H _ us Q I r ⟨_, ns, rfl, SqL.of t, fun ns' p hperm hs hp => ?_⟩
    have : ns' = sortI ns := PySem.W.ksm_same (hperm.trans (sortI_perm ns).symm) hs (sortI_sorted ns)
    rw [this]
    exact k _ _ (.lst hp dqa_of_ints)
  | _ => cases hr
theorem cu_list : CallR X (.type "list") (rU X.K .list) := by
  intro pins s σ H xs us Q I r h
  obtain ⟨x, F, p, res, rfl, e, hp, hr, k⟩ := h
  cases p with
  | list zs =>
    cases Option.some.inj hr
    obtain ⟨a, vs, rfl, t, q⟩ := hp
    exact call_list_of pins s σ H _ us Q I r ⟨_, _, rfl, .inl (SqL.of t), fun l hl => k _ _ (.lst hl q)⟩
  | tuple zs =>
    cases Option.some.inj hr
    obtain ⟨a, vs, rfl, _, t, q⟩ := hp.tup e
    exact call_list_of pins s σ H _ us Q I r ⟨_, _, rfl, .inr t, fun l hl => k _ _ (.lst hl q)⟩
  | _ => cases hr
theorem cu_tuple : CallR X (.type "tuple") (rU X.K .tuple) := by
  intro pins s σ H xs us Q I r h
  obtain ⟨x, F, p, res, rfl, e, hp, hr, k⟩ := h
  cases p with
  | list zs =>
    cases Option.some.inj hr
    obtain ⟨a, vs, rfl, t, q⟩ := hp
    exact call_tuple_of pins s σ H _ us Q I r ⟨_, _, rfl, .inl ⟨SqL.of t, fun l hl => k _ _ (.tup hl q)⟩⟩
  | tuple zs =>
    cases Option.some.inj hr
    obtain ⟨a, vs, rfl, f, t, q⟩ := hp.tup e
    exact call_tuple_of pins s σ H _ us Q I r ⟨_, _, rfl, .inr ⟨t, k _ _ (.old (.tup f q))⟩⟩
  | _ => cases hr
theorem cu_int : CallR X (.type "int") (rU X.K .int) := by
  intro pins s σ H xs us Q I r h
  obtain ⟨x, F, p, res, rfl, e, hp, hr, k⟩ := h
  cases p with
  | int i =>
    cases Option.some.inj hr
    cases hp.int
    exact call_int1 pins s σ H _ us Q I r (.inl ⟨_, rfl, k _ _ (.old (.int _))⟩)
  | bool i =>
    cases Option.some.inj hr
    cases hp.bl
    exact call_int1 pins s σ H _ us Q I r (.inr ⟨_, rfl, k _ _ (.old (.int _))⟩)
  | _ => cases hr
theorem cu_str : CallR X (.type "str") (rU X.K .str) := by
  intro pins s σ H xs us Q I r h
  obtain ⟨x, F, p, res, rfl, e, hp, hr, k⟩ := h
  cases p with
  | int i =>
    obtain ⟨c, hr⟩ := ite_some hr
    cases hr
    cases hp.int
    exact call_str_int pins s σ H _ us Q I r ⟨_, rfl, c, k _ _ (.old (.str _))⟩
  | _ => cases hr
theorem un_negR : UnR X (unaryOp .USub) (fun x H Q => rU X.K .neg [x] H Q) := by
  intro pins s σ H x v Q I r h
  obtain ⟨x, F, p, res, e0, e, hp, hr, k⟩ := h
  cases e0
  cases p with
  | int i =>
    cases Option.some.inj hr
    cases hp.int
    exact un_neg pins s σ H _ v Q I r ⟨_, rfl, k _ _ (.old (.int _))⟩
  | _ => cases hr
/-- repr, where nothing is being shown -/
theorem cu_repr (hg : X.A.guards = some []) (hu : X.A.units + 70 < cLine) : CallR X (.builtin "repr") (rU X.K .repr) := by
  intro pins s σ H xs us Q I r h
  obtain ⟨x, F, p, res, rfl, e, hp, hr, k⟩ := h
  unfold un1 at hr
  simp only at hr
  obtain ⟨c, hr⟩ := ite_some hr
  cases hr
  unfold showOk at c
  simp only [Bool.and_eq_true, decide_eq_true_eq, Bool.not_eq_true'] at c
  obtain ⟨⟨⟨c1, c2⟩, c3⟩, c4⟩ := c
  have fin : ∀ (t : Tok) (s' : Shared), Inv X pins σ H s' → EP X pins σ Q (.str p.shown t) s' := fun t s' I' => ⟨.str _, H, I', ⟨t, rfl⟩, k _ _ (.old (.str _))⟩
  obtain ⟨u, rfl, ru⟩ := vals1 r
  have seqc : ∀ a : Addr, u = .ref a → wpAny (model X.prog X.w) X.A (PySem.call (.builtin "repr") [u]) (EP X pins σ Q) X.xe s := fun a ea => by
    subst ea
    obtain ⟨as, rr⟩ := Dp.reads I p x _ (dq_dp _ _ (hp.dp e)) ru
    exact PySem.repr_of_reads' rr c1 (fun z => by rw [c2] at z; cases z) hg (by omega) (fun _ _ z => z) (fun h' u' tk hk => fin u' _ (I.kept (t' := tk) hk)) (by rw [sizeL]; exact c4)
  cases p with
  | none =>
    cases (show Dq X.K F x .none from hp)
    cases ru
    exact PySem.P.repr_of_none (fin _ _ (I.tok _))
  | bool b =>
    cases hp.bl
    cases ru
    refine PySem.P.repr_of_bool ?_
    have := fin s.toks { s with toks := s.toks + 1 } (I.tok _)
    unfold PyData.shown at this
    exact this
  | int i =>
    cases hp.int
    obtain ⟨t, rfl⟩ := ru
    refine PySem.P.repr_of_int (by unfold PyData.showable at c1; exact of_decide_eq_true c1) ?_
    have := fin s.toks { s with toks := s.toks + 1 } (I.tok _)
    unfold PyData.shown at this
    exact this
  | str z =>
    cases hp.str
    obtain ⟨t, rfl⟩ := ru
    refine PySem.P.repr_of_str ?_ (by unfold PyData.shown at c4; rw [sizeL]; exact c4)
    have := fin s.toks { s with toks := s.toks + 1 } (I.tok _)
    unfold PyData.shown at this
    exact this
  | list zs =>
    obtain ⟨a, vs, rfl, _⟩ := id hp
    exact seqc a ru
  | tuple zs =>
    obtain ⟨a, vs, rfl, _⟩ := hp.tup e
    exact seqc a ru
  | dict z => cases (show Dq X.K F x (.dict z) from hp)
theorem tyX_of {K : PySem.W.Frag} {F H : Hp} {x : V} {p : PyData} {t : String} (e : Same F H) (h : Rv K F H x p) (ht : tyOf p = some t) : TyX K H x (.type t) := by
  cases p with
  | none => cases ht; cases (show Dq K F x .none from h); exact .base .non
  | bool b => cases ht; cases h.bl; exact .base (.bl _)
  | int b => cases ht; cases h.int; exact .base (.int _)
  | str b => cases ht; cases h.str; exact .base (.str _)
  | list b => cases ht; obtain ⟨_, _, rfl, q, _⟩ := h; exact .base (.lst q)
  | tuple b =>
    cases ht
    obtain ⟨a, vs, rfl, _, t, _⟩ := h.tup e
    rcases t with (t | ⟨o, t⟩) | ⟨o, its, n, q1, q2, _⟩
    · exact .base (.tup t)
    · exact .fTuple t
    · exact .kTuple q1 q2
  | dict b => cases ht
/-- isinstance(x, T) -/
theorem cu_isT (T : String) : CallR X (.builtin "isinstance") (fun xs H Q => ∃ x, xs = [x, .ty T] ∧ rU X.K (.isT T) [x] H Q) := by
  intro pins s σ H xs us Q I r h
  obtain ⟨x, rfl, x', F, p, res, e0, e, hp, hr, k⟩ := h
  cases e0
  simp only [un1, Option.bind_eq_some_iff, Option.map_eq_some_iff] at hr
  obtain ⟨t, h1, b, h2, rfl⟩ := hr
  exact call_isi pins s σ H _ us Q I r ⟨_, _, _, _, b, rfl, .ty T, tyX_of e hp h1, kit_ty h2, k _ _ (.old (.bl _))⟩
theorem cu_max2 (hc : X.calm = true) : CallR X (.builtin "max") (rU2 X.K .max) := by
  intro pins s σ H xs us Q I r h
  obtain ⟨x, y, F, p, q, res, rfl, e, hp, hq, hr, k⟩ := h
  cases p with
  | int i =>
    cases q with
    | int j =>
      cases Option.some.inj hr
      cases hp.int
      cases hq.int
      exact call_max2 hc pins s σ H _ us Q I r ⟨_, _, rfl, k _ _ (.old (.int _))⟩
    | _ => cases hr
  | _ => cases q <;> cases hr
theorem cu_min2 (hc : X.calm = true) : CallR X (.builtin "min") (rU2 X.K .min) := by
  intro pins s σ H xs us Q I r h
  obtain ⟨x, y, F, p, q, res, rfl, e, hp, hq, hr, k⟩ := h
  cases p with
  | int i =>
    cases q with
    | int j =>
      cases Option.some.inj hr
      cases hp.int
      cases hq.int
      exact call_min2 hc pins s σ H _ us Q I r ⟨_, _, rfl, k _ _ (.old (.int _))⟩
    | _ => cases hr
  | _ => cases q <;> cases hr
theorem cu_gcd (hc : X.calm = true) : CallR X (.builtin "math.gcd") (rU2 X.K .gcd) := by
  intro pins s σ H xs us Q I r h
  obtain ⟨x, y, F, p, q, res, rfl, e, hp, hq, hr, k⟩ := h
  cases p with
  | int i =>
    cases q with
    | int j =>
      cases Option.some.inj hr
      cases hp.int
      cases hq.int
      exact cr_gcd pins s σ H _ us Q I r ⟨_, _, rfl, k _ _ (.old (.int _))⟩
    | _ => cases hr
  | _ => cases q <;> cases hr
theorem op_ix : IxR X (fun x y H Q => ∃ F p q r, Same F H ∧ Rv X.K F H x p ∧ Rv X.K F H y q ∧ ix2 p q = some r ∧ ∀ v H', Mk X.K F H r v H' → Q v H') := by
  intro value slice pins s σ H x y v u Q I rx ry h hs
  obtain ⟨F, p, q, r, e, hp, hq, hr, k⟩ := h
  have at_ : ∀ {vs : List V} {ds : List PyData} {i : Int} {d : PyData}, DqAll X.K F vs ds → atD ds i = some d → ∃ w, atI vs i = some w ∧ Dq X.K F w d := fun {vs ds i d} q1 h1 => by
    unfold atD atI at h1
    rw [Option.bind_eq_some_iff] at h1
    obtain ⟨j, h2, h3⟩ := h1
    obtain ⟨w, h4, h5⟩ := dpa_get q1 h3
    refine ⟨w, ?_, h5⟩
    unfold atI
    rw [dpa_len q1, h2]
    exact h4
  cases p with
  | list zs =>
    cases q with
    | int i =>
      simp only [ix2, Option.map_eq_some_iff] at hr
      obtain ⟨d, h1, rfl⟩ := hr
      obtain ⟨a, vs, rfl, t, q1⟩ := hp
      cases hq.int
      obtain ⟨w, h2, h3⟩ := at_ q1 h1
      exact ix_list value slice pins s σ H _ _ v u Q I rx ry ⟨_, _, _, _, rfl, rfl, SqL.of t, h2, k _ _ (.old h3)⟩ hs
    | _ => cases hr
  | tuple zs =>
    cases q with
    | int i =>
      simp only [ix2, Option.map_eq_some_iff] at hr
      obtain ⟨d, h1, rfl⟩ := hr
      obtain ⟨a, vs, rfl, _, t, q1⟩ := hp.tup e
      cases hq.int
      obtain ⟨w, h2, h3⟩ := at_ q1 h1
      exact ix_tup value slice pins s σ H _ _ v u Q I rx ry ⟨_, _, _, _, rfl, rfl, t, h2, k _ _ (.old h3)⟩ hs
    | _ => cases hr
  | _ => cases q <;> cases hr
def rS (K : PySem.W.Frag) : V → Option Int → Option Int → Hp → VK → Prop := fun x lo hi H Q => ∃ F p r, Same F H ∧ Rv K F H x p ∧ sl3 lo hi p = some r ∧ ∀ v H', Mk K F H r v H' → Q v H'
theorem op_sl : SlR X (rS X.K) := by
  intro pins s σ H x v vl vu lo hi sl Q I rx hs pl pu h
  obtain ⟨F, p, r, e, hp, hr, k⟩ := h
  cases p with
  | list zs =>
    cases Option.some.inj hr
    obtain ⟨a, vs, rfl, t, q1⟩ := hp
    refine sl_list pins s σ H _ v vl vu lo hi sl Q I rx hs pl pu ⟨_, _, rfl, SqL.of t, fun p hp => k _ _ (.lst hp ?_)⟩
    unfold cutD cutV
    rw [dpa_len q1]
    exact dpa_take _ (dpa_drop _ q1)
  | tuple zs =>
    cases Option.some.inj hr
    obtain ⟨a, vs, rfl, f, t, q1⟩ := hp.tup e
    refine sl_tupA pins s σ H _ v vl vu lo hi sl Q I rx hs pl pu ⟨_, _, rfl, t, fun z => k _ _ (.old ?_), fun z p hp => k _ _ (.tup hp ?_)⟩
    · have : cutD zs lo hi = zs := by
        unfold cutD
        rw [← dpa_len q1, z.1, z.2, List.drop_zero, Nat.sub_zero, dpa_len q1, List.take_length]
      rw [this]
      exact .tup f q1
    · unfold cutD cutV
      rw [dpa_len q1]
      exact dpa_take _ (dpa_drop _ q1)
  | _ => cases hr
theorem op_join : MtR X "str.join" (fun x xs H Q => ∃ y, xs = [y] ∧ rU2 X.K .join [x, y] H Q) := by
  intro pins s σ H x xs v us Q I rx rs h
  obtain ⟨y, rfl, x', y', F, p, q, res, e0, e, hp, hq, hr, k⟩ := h
  cases e0
  cases p with
  | str a =>
    cases q with
    | list zs =>
      simp only [un2, Option.bind_eq_some_iff] at hr
      obtain ⟨ys, h1, h2⟩ := hr
      obtain ⟨c, h2⟩ := ite_some h2
      cases h2
      have e1 := strs_eq h1
      subst e1
      cases hp.str
      obtain ⟨b, vs, rfl, t, q1⟩ := hq
      cases dqa_strs q1
      exact mt_join pins s σ H _ _ v us Q I rx rs ⟨_, _, ys, rfl, rfl, .inl (SqL.of t), c, k _ _ (.old (.str _))⟩
    | _ => cases hr
  | _ => cases q <;> cases hr
end
end Xp

/-! E5: which piece of the text is which piece of the small language. -/
namespace Xp
open PySem PySem.Spec PyProof.Rows L2

structure Lk where
  fn : List Str
  gl : List Str
  gc : Bool
def visB (sc : Scope) (x : Str) : Bool := match sc.names.lookup x with
  | some .local => true
  | some .cell => true
  | some .free => true
  | _ => false
def glB (sc : Scope) (x : Str) : Bool := match sc.names.lookup x with
  | some .globalImplicit => true
  | _ => false
def okV (N : List Str) (sc : Scope) (i : Nat) (x : Str) : Bool := decide (N[i]? = some x) && visB sc x && !(x == ("__debug__" : Str)) && !(x == ("__classdict__" : Str))
def okG (sc : Scope) (x : Str) : Bool := glB sc x && !(x == ("__debug__" : Str))
def tgv : Tg → List Nat
  | .v i => [i]
  | .nil => []
  | .cons t r => tgv t ++ tgv r
def notStar : Expr → Bool
  | .Starred .. => false
  | _ => true
def notSlice : Expr → Bool
  | .Slice .. => false
  | _ => true
def isConst : Expr → Bool
  | .Constant .. => true
  | _ => false
/-- the built-in names that are used -/
def bnames : List Str := ["len", "abs", "max", "min", "sum", "any", "all", "sorted", "set", "list", "tuple", "int", "str", "repr", "isinstance", "bool", "range", "enumerate", "zip"]
def u1name : U1 → Str
  | .neg => "" | .rev => "" | .len => "len" | .abs => "abs" | .maxl => "max" | .minl => "min" | .sum => "sum" | .any => "any" | .all => "all" | .sorted => "sorted" | .setsorted => "" | .list => "list" | .tuple => "tuple"
  | .int => "int" | .str => "str" | .repr => "repr" | .isT _ => ""
def tynames : List String := ["int", "bool", "str", "tuple", "list"]
def boE : Bo → Operator → Bool
  | .add, .Add => true | .sub, .Sub => true | .mul, .Mult => true | .fdiv, .FloorDiv => true | .mod, .Mod => true | .pow, .Pow => true
  | _, _ => false
def coE : Co → CmpOp → Bool
  | .eq, .Eq => true | .ne, .NotEq => true | .lt, .Lt => true | .le, .LtE => true | .gt, .Gt => true | .ge, .GtE => true | .isn, .Is => true | .notn, .IsNot => true | .isb, .Is => true | .notb, .IsNot => true
  | .isin, .In => true | .notin, .NotIn => true
  | _, _ => false
theorem boE_eq {o : Bo} {p : Operator} (h : boE o p = true) : p = boO o := by cases o <;> cases p <;> first | rfl | cases h
theorem coE_eq {o : Co} {p : CmpOp} (h : coE o p = true) : p = coO o := by cases o <;> cases p <;> first | rfl | cases h

section
variable (N : List Str) (L : Lk)
def chkV (i : Nat) (sc : Scope) (e : Expr) : Bool := match e with
  | .Name x _ => decide (N[i]? = some x) && (match sc.names.lookup x with | some .local => true | some .cell => true | _ => false)
  | _ => false
def chkTs : Tg → Scope → List Expr → Bool
  | .nil, _, es => es.isEmpty
  | .cons t r, sc, es => (match es with
    | e :: es => (match t with
      | .v i => chkV N i sc e
      | t => (match e with | .Tuple l _ _ => chkTs t sc l | _ => false)) && chkTs r sc es && notStar e
    | [] => false)
  | .v _, _, _ => false
def chkT (tg : Tg) (sc : Scope) (e : Expr) : Bool := match tg with
  | .v i => chkV N i sc e
  | t => (match e with | .Tuple l _ _ => chkTs N t sc l | _ => false)
theorem chkTs_cons (t r : Tg) (sc : Scope) (e : Expr) (es : List Expr) : chkTs N (.cons t r) sc (e :: es) = (chkT N t sc e && chkTs N r sc es && notStar e) := by
  cases t <;> rfl
/-- the words of a display -/
def keysOk : List Str → List (Option Expr) → Bool
  | [], [] => true
  | k :: ks, some (.Constant (.str y) _ _) :: r => decide (k = y) && keysOk ks r
  | _, _ => false
mutual
def chk : Ex → Scope → Expr → Bool
  | .int i, _, e => (match e with | .Constant (.int j) _ _ => decide (i = j) | _ => false)
  | .bl b, _, e => (match e with | .Constant (.bool c) _ _ => b == c | _ => false)
  | .non, _, e => (match e with | .Constant .none _ _ => true | _ => false)
  | .str x, _, e => (match e with | .Constant (.str y) _ _ => decide (x = y) | _ => false)
  | .var i, sc, e => (match e with | .Name x _ => okV N sc i x | _ => false)
  | .vb i, sc, e => (match e with | .Name x _ => okV N sc i x | _ => false)
  | .vm i, sc, e => (match e with | .Name x _ => okV N sc i x | _ => false)
  | .glb g, sc, e => (match e with | .Name x _ => okG sc x && decide (L.gl[g]? = some x) | _ => false)
  | .fnv f, sc, e => (match e with | .Name x _ => okG sc x && decide (L.fn[f]? = some x) | _ => false)
  | .scr a, sc, e => (match e with | .Call (.Name x _) [y] [] _ => decide (x = ("list" : Str)) && okG sc x && chk a sc y && notStar y | _ => false)
  | .tup es, sc, e => (match e with | .Tuple l _ _ => chks es sc l && decide (l.length ≤ 1000) | _ => false)
  | .lst es, sc, e => (match e with | .List l _ => chks es sc l && decide (l.length ≤ 1000) | _ => false)
  | .bin o a b, sc, e => (match e with | .BinOp x p y _ => boE o p && chk a sc x && chk b sc y | _ => false)
  | .cmp o a b, sc, e => (match e with | .Compare x [p] [y] _ => coE o p && chk a sc x && chk b sc y && !behindInMarks p y | _ => false)
  | .cmp2 o o2 a b c, sc, e => (match e with | .Compare x [p, p2] [y, z] _ => coE o p && coE o2 p2 && chk a sc x && chk b sc y && chk c sc z && !behindInMarks p2 z | _ => false)
  | .and a b, sc, e => (match e with | .BoolOp .And (x :: y :: r) pos => chk a sc x && (match r with | [] => chk b sc y | z :: r => chk b sc (.BoolOp .And (y :: z :: r) pos)) | _ => false)
  | .or a b, sc, e => (match e with | .BoolOp .Or (x :: y :: r) pos => chk a sc x && (match r with | [] => chk b sc y | z :: r => chk b sc (.BoolOp .Or (y :: z :: r) pos)) | _ => false)
  | .not a, sc, e => (match e with | .UnaryOp .Not x _ => chk a sc x | _ => false)
  | .ite c a b, sc, e => (match e with | .IfExp z x y _ => chk c sc z && chk a sc x && chk b sc y | _ => false)
  | .cal f es, sc, e => (match e with | .Call (.Name x _) (y :: l) [] _ => okG sc x && decide (L.fn[f]? = some x) && chks es sc (y :: l) | .Call (.Name x _) [] [] _ => okG sc x && decide (L.fn[f]? = some x) && (match es with | .nil => true | _ => false) | _ => false)
  | .cav i es, sc, e => (match e with | .Call (.Name x _) (y :: l) [] _ => okV N sc i x && chks es sc (y :: l) | _ => false)
  | .u1 .neg a, sc, e => (match e with | .UnaryOp .USub x _ => chk a sc x | _ => false)
  | .u1 .rev a, sc, e => (match e with | .Subscript x (.Slice none none (some (.UnaryOp .USub (.Constant (.int i) _ _) _)) _) _ => chk a sc x && decide (i = 1) | _ => false)
  | .u1 (.isT T) a, sc, e => (match e with
    | .Call (.Name f _) [x, .Name t _] [] _ => decide (f = ("isinstance" : Str)) && okG sc f && chk a sc x && notStar x && decide (t = Str.ofString T) && okG sc t && tynames.contains T
    | _ => false)
  | .u1 f a, sc, e => (match e with | .Call (.Name x _) [y] [] _ => decide (x = u1name f) && !decide (x = "") && okG sc x && chk a sc y && notStar y | _ => false)
  | .u2 .join a b, sc, e => (match e with | .Call (.Attribute o n apos) [y] [] pos => decide (n = ("join" : Str)) && isConst o && chk a sc o && chk b sc y && notStar y && apos.endLine == pos.line | _ => false)
  | .u2 .count _ _, _, _ => false
  | .u2 .max a b, sc, e => (match e with | .Call (.Name f _) [x, y] [] _ => decide (f = ("max" : Str)) && okG sc f && chk a sc x && chk b sc y && notStar x && notStar y | _ => false)
  | .u2 .min a b, sc, e => (match e with | .Call (.Name f _) [x, y] [] _ => decide (f = ("min" : Str)) && okG sc f && chk a sc x && chk b sc y && notStar x && notStar y | _ => false)
  | .u2 .gcd a b, sc, e => (match e with | .Call (.Name f _) [x, y] [] _ => L.gc && decide (f = ("gcd" : Str)) && okG sc f && chk a sc x && chk b sc y && notStar x && notStar y | _ => false)
  | .ix a b, sc, e => (match e with | .Subscript x y _ => chk a sc x && chk b sc y && notSlice y | _ => false)
  | .sl a lo hi, sc, e => (match e with | .Subscript x (.Slice l h none _) _ => chk a sc x && (match lo with | .nopart => l.isNone | _ => (match l with | some z => chk lo sc z | none => false)) && (match hi with | .nopart => h.isNone | _ => (match h with | some z => chk hi sc z | none => false)) | _ => false)
  | .nopart, _, _ => false
  | .lc own tg it c e, sc, x => (match x with
    | .ListComp elt [⟨t, i, ifs, 0⟩] scope _ =>
      blkC N sc scope (own.map fun j => (N.getD j "", j)) && (tgv tg).all (own.contains ·) && chkI it sc t i && chkT N tg scope t && (match ifs with | [] => (match c with | .bl true => true | _ => false) | [f] => chk c (relS scope sc) f | _ => false) && chk e (relS scope sc) elt
    | _ => false)
  | .lc2 own own1 tg it c tg1 it1 c1 e, sc, x => (match x with
    | .ListComp elt [⟨t, i, ifs, 0⟩, ⟨t1, i1, ifs1, 0⟩] scope _ =>
      blkC N sc scope (own.map fun j => (N.getD j "", j)) && (tgv tg).all (own.contains ·) && (tgv tg1).all (own1.contains ·) && own1.all (own.contains ·) && chkI it sc t i && chkT N tg scope t && (match ifs with | [] => (match c with | .bl true => true | _ => false) | [f] => chk c (relS scope sc) f | _ => false) &&
        chkI it1 (relS scope sc) t1 i1 && chkT N tg1 scope t1 && (match ifs1 with | [] => (match c1 with | .bl true => true | _ => false) | [f] => chk c1 (relS scope sc) f | _ => false) && chk e (relS scope sc) elt
    | _ => false)
  | .lc3 _ _ _ _ _ _ _ _ _ _ _ _ _, _, _ => false
  | .dsel ks es k, sc, e => (match e with | .Subscript (.Dict keys vals _) z _ => chk k sc z && chks es sc vals && keysOk ks keys && decide (vals.length = ks.length) && decide (ks.length = es.len) && decide (ks.length ≤ 15) && !ks.isEmpty && notSlice z | _ => false)
def chks : Exs → Scope → List Expr → Bool
  | .nil, _, l => l.isEmpty
  | .cons e es, sc, l => (match l with
    | x :: r => chk e sc x && chks es sc r && notStar x
    | [] => false)
def chkI : It → Scope → Expr → Expr → Bool
  | .seq a, sc, _, e => chk a sc e && (match e with | .Set .. => false | _ => true)
  | .rng1 a, sc, _, e => (match e with | .Call (.Name f _) [x] [] _ => decide (f = ("range" : Str)) && okG sc f && chk a sc x && notStar x | _ => false)
  | .rng2 a b, sc, _, e => (match e with | .Call (.Name f _) [x, y] [] _ => decide (f = ("range" : Str)) && okG sc f && chk a sc x && chk b sc y && notStar x && notStar y | _ => false)
  | .rng3 a b c, sc, _, e => (match e with | .Call (.Name f _) [x, y, z] [] _ => decide (f = ("range" : Str)) && okG sc f && chk a sc x && chk b sc y && chk c sc z && notStar x && notStar y && notStar z | _ => false)
  | .enum a, sc, t, e => (match t, e with | .Tuple .., .Call (.Name f _) [x] [] _ => decide (f = ("enumerate" : Str)) && okG sc f && chk a sc x && notStar x | _, _ => false)
  | .zip a b, sc, t, e => (match t, e with | .Tuple .., .Call (.Name f _) [x, y] [] _ => decide (f = ("zip" : Str)) && okG sc f && chk a sc x && chk b sc y && notStar x && notStar y | _, _ => false)
end
def chkp (x : Ex) (sc : Scope) (o : Option Expr) : Bool := match x with
  | .nopart => o.isNone
  | _ => (match o with | some z => chk N L x sc z | none => false)
end

/-! ### readings -/
/-- what all the code runs under -/
structure Gd where
  K : PySem.W.Frag
  fa : Nat → Option Addr
  N : List Str
  L : Lk
  G : List PyData
  cal : Nat → List W → List Cell → Option (R × List Cell)
  wf : Nat
inductive RWs (K : PySem.W.Frag) (fa : Nat → Option Addr) (F : Hp) (ι : List Addr) : List V → List W → Prop
  | nil : RWs K fa F ι [] []
  | cons {v : V} {vs : List V} {w : W} {ws : List W} : RW K fa F ι v w → RWs K fa F ι vs ws → RWs K fa F ι (v :: vs) (w :: ws)
theorem RWs.mono {K : PySem.W.Frag} {fa : Nat → Option Addr} {F F' H H' : Hp} {ι ι' : List Addr} (x : Stp F ι H F' ι' H') : ∀ {vs : List V} {ws : List W}, RWs K fa F ι vs ws → RWs K fa F' ι' vs ws
  | _, _, .nil => .nil
  | _, _, .cons q r => .cons (q.mono x) (RWs.mono x r)
theorem RWs.len {K : PySem.W.Frag} {fa : Nat → Option Addr} {F : Hp} {ι : List Addr} : ∀ {vs : List V} {ws : List W}, RWs K fa F ι vs ws → vs.length = ws.length
  | _, _, .nil => rfl
  | _, _, .cons q r => congrArg (· + 1) (RWs.len r)
/-- the shared lists -/
structure Cs (K : PySem.W.Frag) (F : Hp) (ι : List Addr) (H : Hp) (c0 : List Cell) : Prop where
  st : ∀ (n : Nat) (xs : List PyData), c0[n]? = some xs → ∃ (a : Addr) (vs : List V), ι[n]? = some a ∧ H a = some (.lst vs) ∧ DqAll K F vs xs
  nfz : ∀ a ∈ ι, F a = none ∧ H a ≠ none
  stl : c0.length = ι.length
  nd : ι.Nodup
theorem Stt.cs {K : PySem.W.Frag} {fa : Nat → Option Addr} {E : Ent} {F H : Hp} {ι : List Addr} {s : S} {σ : L2.St} (S0 : Stt K fa E F ι s σ H) : Cs K F ι H s.st := ⟨S0.st, S0.nfz, S0.stl, S0.nd⟩
/-- behind a call -/
structure Cd (K : PySem.W.Frag) (fa : Nat → Option Addr) (F : Hp) (ι : List Addr) (H F' : Hp) (ι' : List Addr) (H' : Hp) (st' : List Cell) (v : V) (r : R) : Prop where
  step : Stp F ι H F' ι' H'
  sub : Same F' H'
  nofz : ∀ b o, F' b = some o → F b = some o ∨ H b = none
  cs : Cs K F' ι' H' st'
  rr : RR K fa F' ι' H' v r
  fre : ∀ (xs : List PyData) (a : Addr), r = .own xs → v = .ref a → H a = none
  nb : ∀ xs, r ≠ .bor xs
/-- the promise of the def number f -/
def spF (g : Gd) (f : Nat) : Sp := fun vs H Q _ => ∃ F ι st ws, Same F H ∧ Cs g.K F ι H st ∧ RWs g.K g.fa F ι vs ws ∧ ∃ r st', g.cal f ws st = some (r, st') ∧ ∀ v F' ι' H', Cd g.K g.fa F ι H F' ι' H' st' v r → Q v H'
structure XOk (g : Gd) (X : Cx) (sc : Scope) : Prop where
  eK : X.K = g.K
  calm : X.calm = true
  eN : X.N = g.N
  nd : X.N.Nodup
  sc : X.env.scope = sc
  room : X.A.units + 100 < cLine
  grd : X.A.guards = some []
  fns : ∀ (f : Nat) (x : Str), g.L.fn[f]? = some x → ∃ a, g.fa f = some a ∧ X.mg x = some (.ref a) ∧ PySem.W.keepIn X.K (.ref a) = true
  fcl : ∀ f a, g.fa f = some a → PySem.W.keepIn X.K (.ref a) = true ∧ ∀ Y : Cx, Y.prog = X.prog → Y.w = X.w → Y.K = X.K → Y.mg = X.mg → Y.base = X.base → Y.A = X.A → CallR Y (.ref a) (fun vs H Q => spF g f vs H Q fun _ _ _ => False)
  gls : ∀ (i : Nat) (x : Str), g.L.gl[i]? = some x → ∃ (u : Value) (v : V) (d : PyData), X.mg x = some u ∧ RelV v u ∧ g.G[i]? = some d ∧ ∀ F, Dq X.K F v d
  blt : ∀ x ∈ bnames, X.mg x = none
  xe : X.xe = fun _ _ => False
  gcd : g.L.gc = true → X.mg "gcd" = some (.builtin "math.gcd")

section
variable (g : Gd)
def tE (x : Ex) : TE := fun σ H Q => ∃ E F ι s, Stt g.K g.fa E F ι s σ H ∧ ∃ r s', ev g.cal g.G x s = some (r, s') ∧ ∀ v F' ι' H', Stt g.K g.fa E F' ι' s' σ H' → Stp F ι H F' ι' H' → RR g.K g.fa F' ι' H' v r → Fre E s' σ v r → Q v H'
def tT (x : Ex) : TT := fun σ H Q => ∃ E F ι s, Stt g.K g.fa E F ι s σ H ∧ ∃ r s' b, ev g.cal g.G x s = some (r, s') ∧ asB s'.st r = some b ∧ ∀ F' ι' H', Stt g.K g.fa E F' ι' s' σ H' → Stp F ι H F' ι' H' → Q b H'
def tAs (es : Exs) : TA := fun σ H Q => ∃ E F ι s, Stt g.K g.fa E F ι s σ H ∧ ∃ ws s', evs g.cal g.G es s = some (ws, s') ∧ ∀ vs F' ι' H', Stt g.K g.fa E F' ι' s' σ H' → Stp F ι H F' ι' H' → RWs g.K g.fa F' ι' vs ws → Q vs H'
def tPa (x : Ex) : TO := fun σ H Q => ∃ E F ι s, Stt g.K g.fa E F ι s σ H ∧ ∃ o s', evp g.cal g.G x s = some (o, s') ∧ ∀ F' ι' H', Stt g.K g.fa E F' ι' s' σ H' → Stp F ι H F' ι' H' → Q o H'
def ItOk (K : PySem.W.Frag) (F : Hp) (J : L2.It) (xs : List PyData) : Prop := ∀ H, Same F H → (∀ i x, xs[i]? = some x → J.go i H ∧ ∀ v H', J.yld i H v H' → Mk K F H (.w (.d x)) v H') ∧ J.stop xs.length H
def tI (it : It) : TI := fun σ H P => ∃ E F ι s, Stt g.K g.fa E F ι s σ H ∧ ∃ xs s', evi g.cal g.G it s = some (xs, s') ∧ ∀ J F' ι' H', Stt g.K g.fa E F' ι' s' σ H' → Stp F ι H F' ι' H' → ItOk g.K F' J xs → P J H'
def gT (tg : Tg) : TG := fun v σ H Q => ∃ E F ι s x, Stt g.K g.fa E F ι s σ H ∧ Dq g.K F v x ∧ ∃ l, bindT tg x s.sl = some l ∧ ∀ σ', Stt g.K g.fa E F ι ⟨l, s.st⟩ σ' H → (∀ ws, (∀ i ∈ tgv tg, i ∈ ws) → L2.wipe σ' ws = L2.wipe σ ws) → Q σ' H
def gTs (tg : Tg) : TGs := fun vs σ H Q => ∃ E F ι s xs, Stt g.K g.fa E F ι s σ H ∧ DqAll g.K F vs xs ∧ ∃ l, bindT tg (.tuple xs) s.sl = some l ∧ ∀ σ', Stt g.K g.fa E F ι ⟨l, s.st⟩ σ' H → (∀ ws, (∀ i ∈ tgv tg, i ∈ ws) → L2.wipe σ' ws = L2.wipe σ ws) → Q σ' H
end
end Xp

/-! E6: the expressions run as they are read. -/
namespace Xp
open PySem PySem.Spec PyProof.Rows L2

section
variable {X : Cx} {e : Expr} {t t2 : TE}
theorem PE.weak (h : PE X e t) (w : ∀ σ H Q, t2 σ H Q → t σ H Q) : PE X e t2 := ⟨fun pins s σ H Q I q => h.run pins s σ H Q I (w σ H Q q)⟩
theorem PT.weak {t t2 : TT} (h : PT X e t) (w : ∀ σ H Q, t2 σ H Q → t σ H Q) : PT X e t2 := ⟨fun pins s σ H Q I q => h.run pins s σ H Q I (w σ H Q q)⟩
theorem PA.weak {es : List Expr} {t t2 : TA} (h : PA X es t) (w : ∀ σ H Q, t2 σ H Q → t σ H Q) : PA X es t2 := ⟨fun pos pins s σ H Q I q => h.run pos pins s σ H Q I (w σ H Q q)⟩
theorem PO.weak {o : Option Expr} {t t2 : TO} (h : PO X o t) (w : ∀ σ H Q, t2 σ H Q → t σ H Q) : PO X o t2 := ⟨fun pins s σ H Q I q => h.run pins s σ H Q I (w σ H Q q)⟩
theorem PG.weak {t t2 : TG} (h : PG X e t) (w : ∀ v σ H Q, t2 v σ H Q → t v σ H Q) : PG X e t2 := ⟨fun pins s σ H v u Q I r q => h.run pins s σ H v u Q I r (w v σ H Q q)⟩
theorem PI.weak {tg : Expr} {t t2 : TI} (h : PI X tg e t) (w : ∀ σ H Q, t2 σ H Q → t σ H Q) : PI X tg e t2 := ⟨fun pins s σ H R I q => h.run pins s σ H R I (w σ H R q)⟩
end
theorem bd_some {α β : Type} {x : Option (α × S)} {f : α → S → Option (β × S)} {y : β × S} (h : bd x f = some y) : ∃ a s, x = some (a, s) ∧ f a s = some y := by
  unfold bd at h
  split at h
  · exact ⟨_, _, rfl, h⟩
  · cases h
theorem on_some {β : Type} {x : Option β} {s s' : S} {b : β} (h : on x s = some (b, s')) : x = some b ∧ s' = s := by
  unfold on at h
  split at h
  · cases h; exact ⟨rfl, rfl⟩
  · cases h
section
variable {g : Gd} {X : Cx} {sc : Scope}
theorem okV_vis {N : List Str} {i : Nat} {x : Str} (h : okV N sc i x = true) : N[i]? = some x ∧ Vis sc x ∧ (x == ("__debug__" : Str)) = false ∧ (x == ("__classdict__" : Str)) = false := by
  unfold okV at h
  simp only [Bool.and_eq_true, decide_eq_true_eq, Bool.not_eq_true'] at h
  obtain ⟨⟨⟨h1, h2⟩, h3⟩, h4⟩ := h
  refine ⟨h1, ?_, h3, h4⟩
  unfold visB at h2
  unfold Vis
  split at h2 <;> simp_all
theorem okG_gl (O : XOk g X sc) {x : Str} (h : okG sc x = true) : Gl X x ∧ (x == ("__debug__" : Str)) = false := by
  unfold okG at h
  simp only [Bool.and_eq_true, Bool.not_eq_true'] at h
  refine ⟨?_, h.2⟩
  have h1 := h.1
  unfold glB at h1
  unfold Gl Env.kindOf
  rw [O.sc]
  split at h1 <;> simp_all

/-- an operand in turn -/
theorem tE.go {x : Ex} {σ : L2.St} {H : Hp} {Q : VK} {E : Ent} {F : Hp} {ι : List Addr} {s s' : S} {r : R} (S0 : Stt g.K g.fa E F ι s σ H) (h : ev g.cal g.G x s = some (r, s'))
    (k : ∀ v F' ι' H', Stt g.K g.fa E F' ι' s' σ H' → Stp F ι H F' ι' H' → RR g.K g.fa F' ι' H' v r → Fre E s' σ v r → Q v H') : tE g x σ H Q := ⟨E, F, ι, s, S0, r, s', h, k⟩
/-- a value stays what it is while more is run -/
theorem RR.later {K : PySem.W.Frag} {fa : Nat → Option Addr} {E : Ent} {F F' H H' : Hp} {ι ι' : List Addr} {s s' : S} {σ : L2.St} {v : V} {r : R} (S1 : Stt K fa E F ι s σ H) (h : RR K fa F ι H v r) (f : Fre E s σ v r) (hs : Stp F ι H F' ι' H')
    (S2 : Stt K fa E F' ι' s' σ H') : (∀ d, r.dat s'.st = some d → Rv K F' H' v d) := by
  intro d e
  cases h with
  | w q =>
    exact S2.rv (.w (q.mono hs)) e
  | own o =>
    cases e
    obtain ⟨vs, e1, e2⟩ := o.ex
    exact ⟨_, vs, rfl, hs.ext _ _ e1 o.ni, dpa_mono hs.fz _ _ e2⟩
  | bor o =>
    cases e
    obtain ⟨vs, e1, e2⟩ := o.ex
    exact ⟨_, vs, rfl, hs.ext _ _ e1 o.ni, dpa_mono hs.fz _ _ e2⟩

/-! ### names, constants -/
theorem pe_lit {x : Ex} {e : Expr} {v : V} {d : PyData} (h : PE X e (tC v)) (hv : ∀ F, Dq g.K F v d) (he : ∀ s, ev g.cal g.G x s = some (.w (.d d), s)) : PE X e (tE g x) := by
  refine PE.weak h fun σ H Q ⟨E, F, ι, s, S0, r, s', h1, k⟩ => ?_
  rw [he] at h1
  cases h1
  exact k v F ι H S0 Stp.rfl (.w (.d (hv F))) fre_w
theorem pe_varB (O : XOk g X sc) {i : Nat} {x : Str} {pos : Pos} (h : okV g.N sc i x = true) : PE X (.Name x pos) (tVar i) := by
  obtain ⟨h1, h2, h3, h4⟩ := okV_vis h
  exact pe_var (by rw [O.eN]; exact h1) (by rw [O.sc]; exact h2) h3 h4
theorem snd_vb (O : XOk g X sc) {i : Nat} {x : Str} {pos : Pos} (h : okV g.N sc i x = true) : PE X (.Name x pos) (tE g (.vb i)) := by
  refine PE.weak (pe_varB O h) fun σ H Q ⟨E, F, ι, s, S0, r, s', h1, k⟩ => ?_
  simp only [ev] at h1
  split at h1
  · rename_i xs c
    cases h1
    obtain ⟨v, q1, q2, q3⟩ := S0.slot _ _ c
    cases q2 with
    | own o => exact ⟨_, q1, k _ F ι H S0 Stp.rfl (.bor o) fre_bor⟩
  · rename_i y c
    cases h1
    obtain ⟨v, q1, q2, q3⟩ := S0.slot _ _ c
    exact ⟨_, q1, k _ F ι H S0 Stp.rfl q2 fre_w⟩
  · cases h1
theorem snd_vm (O : XOk g X sc) {i : Nat} {x : Str} {pos : Pos} (h : okV g.N sc i x = true) : PE X (.Name x pos) (tE g (.vm i)) := by
  refine PE.weak (pe_varB O h) fun σ H Q ⟨E, F, ι, s, S0, r, s', h1, k⟩ => ?_
  simp only [ev] at h1
  split at h1
  · rename_i xs c
    cases h1
    obtain ⟨v, q1, q2, q3⟩ := S0.slot _ _ c
    cases q2 with
    | @own a _ o =>
      have ne : ∀ j (r : R), (s.sl.set i none)[j]? = some (some r) → j ≠ i ∧ s.sl[j]? = some (some r) := fun j r hj => by
        by_cases e : i = j
        · subst e
          rw [List.getElem?_set_self (List.getElem?_eq_some_iff.mp c).1] at hj
          cases hj
        · rw [List.getElem?_set_ne e] at hj
          exact ⟨fun z => e z.symm, hj⟩
      refine ⟨_, q1, k _ F ι H ?_ Stp.rfl (.own o) fun ys b e1 e2 => ?_⟩
      · exact { sub := S0.sub, step := S0.step, nofz := S0.nofz, len := by rw [S0.len]; simp, slot := fun j r hj => S0.slot j r (ne j r hj).2, new := fun j ys b o' hb => S0.new j ys b (ne j _ o').2 hb,
                dist := fun j l ys zs hjl o1 o2 => S0.dist j l ys zs hjl (ne j _ o1).2 (ne l _ o2).2, st := S0.st, nfz := S0.nfz, stl := S0.stl, nd := S0.nd,
                res := fun b hb => let ⟨h1, h2, h3, h4⟩ := S0.res b hb; ⟨h1, h2, h3, fun j ys o' => h4 j ys (ne j _ o').2⟩ }
      · cases e2
        refine ⟨S0.new i _ _ c q1, fun j zs o' hj => ?_, fun hb => (S0.res _ hb).2.2.2 i _ c q1⟩
        obtain ⟨n1, n2⟩ := ne j _ o'
        exact S0.dist j i zs _ n1 n2 c (hj.trans q1.symm)
  · rename_i y c
    cases h1
    obtain ⟨v, q1, q2, q3⟩ := S0.slot _ _ c
    exact ⟨_, q1, k _ F ι H S0 Stp.rfl q2 fre_w⟩
  · cases h1
/-- a slot's list is frozen where it stands -/
theorem Stt.frozeSlot {K : PySem.W.Frag} {fa : Nat → Option Addr} {E : Ent} {F H : Hp} {ι : List Addr} {s : S} {σ : L2.St} (S0 : Stt K fa E F ι s σ H) {i : Nat} {xs : List PyData} (c : OwnAt s i xs) :
    ∃ v F', σ[i]? = some (some v) ∧ Stt K fa E F' ι ⟨s.sl.set i (some (.w (.d (.list xs)))), s.st⟩ σ H ∧ Stp F ι H F' ι H ∧ RW K fa F' ι v (.d (.list xs)) := by
  obtain ⟨v, q1, q2, q3⟩ := S0.slot _ _ c
  cases q2 with
  | @own a _ o =>
    have il : i < s.sl.length := (List.getElem?_eq_some_iff.mp c).1
    have ne : ∀ j (r : R), (s.sl.set i (some (.w (.d (.list xs)))))[j]? = some (some r) → (j = i ∧ r = .w (.d (.list xs))) ∨ (j ≠ i ∧ s.sl[j]? = some (some r)) := fun j r hj => by
      by_cases e : i = j
      · subst e
        rw [List.getElem?_set_self il] at hj
        cases hj
        exact .inl ⟨rfl, rfl⟩
      · rw [List.getElem?_set_ne e] at hj
        exact .inr ⟨fun z => e z.symm, hj⟩
    have neo : ∀ j ys, OwnAt ⟨s.sl.set i (some (.w (.d (.list xs)))), s.st⟩ j ys → j ≠ i ∧ OwnAt s j ys := fun j ys o' => by
      rcases ne j _ o' with ⟨_, z⟩ | z
      · cases z
      · exact z
    obtain ⟨vs, e1, e2⟩ := o.ex
    have rw1 : RW K fa (upd F a (.lst vs)) ι (.ref a) (.d (.list xs)) := .d (.lst upd_same (dpa_mono (same_upd o.nf) _ _ e2))
    -- without the slot
    have S1 : Stt K fa E F ι ⟨s.sl.set i none, s.st⟩ σ H := by
      have ne0 : ∀ j (r : R), (s.sl.set i none)[j]? = some (some r) → j ≠ i ∧ s.sl[j]? = some (some r) := fun j r hj => by
        by_cases e : i = j
        · subst e
          rw [List.getElem?_set_self il] at hj
          cases hj
        · rw [List.getElem?_set_ne e] at hj
          exact ⟨fun z => e z.symm, hj⟩
      exact { sub := S0.sub, step := S0.step, nofz := S0.nofz, len := by rw [S0.len]; simp, slot := fun j r hj => S0.slot j r (ne0 j r hj).2, new := fun j ys b o' hb => S0.new j ys b (ne0 j _ o').2 hb,
              dist := fun j l ys zs hjl o1 o2 => S0.dist j l ys zs hjl (ne0 j _ o1).2 (ne0 l _ o2).2, st := S0.st, nfz := S0.nfz, stl := S0.stl, nd := S0.nd,
              res := fun b hb => let ⟨h1, h2, h3, h4⟩ := S0.res b hb; ⟨h1, h2, h3, fun j ys o' => h4 j ys (ne0 j _ o').2⟩ }
    have S2 := S1.grow (o := .lst vs) o.nf e1 (S0.new i _ _ c q1) o.ni (fun j ys o' hj => by
      have hj2 : (s.sl.set i none)[j]? = some (some (.own ys)) := o'
      by_cases e : i = j
      · subst e
        rw [List.getElem?_set_self il] at hj2
        cases hj2
      · rw [List.getElem?_set_ne e] at hj2
        exact S0.dist j i ys _ (fun z => e z.symm) hj2 c (hj.trans q1.symm)) fun hb => (S0.res _ hb).2.2.2 i _ c q1
    refine ⟨_, upd F a (.lst vs), q1, ?_, Stp.grow o.nf, rw1⟩
    refine { sub := S2.sub, step := S2.step, nofz := S2.nofz, len := by rw [S0.len]; simp, slot := fun j r hj => ?_, new := fun j ys b o' hb => S0.new j ys b (neo j ys o').2 hb,
             dist := fun j l ys zs hjl o1 o2 => S0.dist j l ys zs hjl (neo j _ o1).2 (neo l _ o2).2, st := S2.st, nfz := S2.nfz, stl := S0.stl, nd := S0.nd,
             res := fun b hb => let ⟨h1, h2, h3, _⟩ := S2.res b hb; ⟨h1, h2, h3, fun j ys o' => (S0.res b hb).2.2.2 j ys (neo j _ o').2⟩ }
    rcases ne j r hj with ⟨rfl, rfl⟩ | ⟨n1, n2⟩
    · exact ⟨_, q1, .w rw1, fun _ z => by cases z⟩
    · exact S2.slot j r (by show (s.sl.set i none)[j]? = _; rw [List.getElem?_set_ne (Ne.symm n1)]; exact n2)
theorem snd_var (O : XOk g X sc) {i : Nat} {x : Str} {pos : Pos} (h : okV g.N sc i x = true) : PE X (.Name x pos) (tE g (.var i)) := by
  refine PE.weak (pe_varB O h) fun σ H Q ⟨E, F, ι, s, S0, r, s', h1, k⟩ => ?_
  simp only [ev] at h1
  split at h1
  · rename_i xs c
    cases h1
    obtain ⟨v, F', q1, S1, st, q2⟩ := S0.frozeSlot c
    exact ⟨_, q1, k _ F' ι H S1 st (.w q2) fre_w⟩
  · rename_i y c
    cases h1
    obtain ⟨v, q1, q2, q3⟩ := S0.slot _ _ c
    exact ⟨_, q1, k _ F ι H S0 Stp.rfl q2 fre_w⟩
  · cases h1
theorem snd_glb (O : XOk g X sc) {i : Nat} {x : Str} {pos : Pos} (h : okG sc x = true) (hg : g.L.gl[i]? = some x) : PE X (.Name x pos) (tE g (.glb i)) := by
  obtain ⟨h1, h2⟩ := okG_gl O h
  obtain ⟨u, v, d, q1, q2, q3, q4⟩ := O.gls i x hg
  refine pe_lit (pe_glob h1 q1 q2 h2) (fun F => by rw [← O.eK]; exact q4 F) fun s => ?_
  simp only [ev, q3, on, Option.map_some]
theorem snd_fnv (O : XOk g X sc) {i : Nat} {x : Str} {pos : Pos} (h : okG sc x = true) (hg : g.L.fn[i]? = some x) : PE X (.Name x pos) (tE g (.fnv i)) := by
  obtain ⟨h1, h2⟩ := okG_gl O h
  obtain ⟨a, q1, q2, q3⟩ := O.fns i x hg
  refine PE.weak (pe_glob (v := .ref a) h1 q2 rfl h2) fun σ H Q ⟨E, F, ι, s, S0, r, s', e1, k⟩ => ?_
  simp only [ev] at e1
  cases e1
  exact k _ F ι H S0 Stp.rfl (.w (.fn q1)) fre_w

/-! ### two operands -/
theorem two {A B : Expr} {a b : Ex} {f : PyData → PyData → Option R} {r2 : R2} {x : Ex} (he : ∀ s, ev g.cal g.G x s = bd (ev g.cal g.G a s) fun x s1 => bd (ev g.cal g.G b s1) fun y s2 => on ((x.dat s2.st).bind fun p => (y.dat s2.st).bind fun q => f p q) s2)
    (hr : ∀ F H v u p q r Q, Same F H → Rv g.K F H v p → Rv g.K F H u q → f p q = some r → (∀ w H', Mk g.K F H r w H' → Q w H') → r2 v u H Q) :
    ∀ σ H Q, tE g x σ H Q → tOp r2 (tE g a) (tE g b) σ H Q := by
  intro σ H Q ⟨E, F, ι, s, S0, r, s', h1, k⟩
  rw [he] at h1
  replace h1 := bd_some h1
  obtain ⟨r1, s1, e1, h1⟩ := h1
  replace h1 := bd_some h1
  obtain ⟨r2', s2, e2, h1⟩ := h1
  replace h1 := on_some h1
  obtain ⟨h1, rfl⟩ := h1
  rw [Option.bind_eq_some_iff] at h1
  obtain ⟨p, d1, h1⟩ := h1
  rw [Option.bind_eq_some_iff] at h1
  obtain ⟨q, d2, h1⟩ := h1
  refine tE.go S0 e1 fun v F1 ι1 H1 S1 st1 rr1 f1 => tE.go S1 e2 fun u F2 ι2 H2 S2 st2 rr2 f2 => ?_
  refine hr F2 H2 v u p q r Q S2.sub (rr1.later S1 f1 st2 S2 p d1) (S2.rv rr2 d2) h1 fun w H' m => ?_
  obtain ⟨F3, S3, st3, rr3, f3⟩ := S2.made m
  exact k w F3 ι2 H' S3 ((st1.trans st2).trans st3) rr3 f3
theorem one {a : Ex} {f : PyData → Option R} {r1 : V → Hp → VK → Prop} {x : Ex} (he : ∀ s, ev g.cal g.G x s = bd (ev g.cal g.G a s) fun x s1 => on ((x.dat s1.st).bind fun p => f p) s1)
    (hr : ∀ F H v p r Q, Same F H → Rv g.K F H v p → f p = some r → (∀ w H', Mk g.K F H r w H' → Q w H') → r1 v H Q) :
    ∀ σ H Q, tE g x σ H Q → tE g a σ H fun v H1 => r1 v H1 Q := by
  intro σ H Q ⟨E, F, ι, s, S0, r, s', h1, k⟩
  rw [he] at h1
  replace h1 := bd_some h1
  obtain ⟨r0, s1, e1, h1⟩ := h1
  replace h1 := on_some h1
  obtain ⟨h1, rfl⟩ := h1
  rw [Option.bind_eq_some_iff] at h1
  obtain ⟨p, d1, h1⟩ := h1
  refine tE.go S0 e1 fun v F1 ι1 H1 S1 st1 rr1 f1 => ?_
  refine hr F1 H1 v p r Q S1.sub (S1.rv rr1 d1) h1 fun w H' m => ?_
  obtain ⟨F3, S3, st3, rr3, f3⟩ := S1.made m
  exact k w F3 ι1 H' S3 (st1.trans st3) rr3 f3
theorem asB_dat {st : List Cell} {r : R} {b : Bool} (h : asB st r = some b) : r.dat st = some (.bool b) := by
  unfold asB at h
  split at h
  · cases h; assumption
  · cases h
theorem asI_dat {st : List Cell} {r : R} {b : Int} (h : asI st r = some b) : r.dat st = some (.int b) := by
  unfold asI at h
  split at h
  · cases h; assumption
  · cases h
/-- a value as a test -/
theorem pt_of {e : Expr} {x : Ex} (h : PE X e (tE g x)) (he : ∀ whole, isTrue e X.env whole = (do let v ← whole; standAt e.pos; holding [v] (truthy v))) : PT X e (tT g x) := by
  refine PT.weak (pt_val h he) fun σ H Q ⟨E, F, ι, s, S0, r, s', b, h1, hb, k⟩ => ?_
  refine tE.go S0 h1 fun v F1 ι1 H1 S1 st1 rr1 f1 => ⟨b, ?_, k F1 ι1 H1 S1 st1⟩
  exact (S1.rv rr1 (asB_dat hb)).bl
theorem snd_bin {a b : Ex} {o : Bo} {A B : Expr} {pos : Pos} (O : XOk g X sc) (ha : PE X A (tE g a)) (hb : PE X B (tE g b)) : PE X (.BinOp A (boO o) B pos) (tE g (.bin o a b)) :=
  PE.weak (pe_op (op_bin o) ha hb) (two (A := A) (B := B) (f := bin2 o) (fun s => by simp only [ev]) fun F H v u p q r Q e hp hq hr k => ⟨F, p, q, r, e, by rw [O.eK]; exact hp, by rw [O.eK]; exact hq, hr, by rw [O.eK]; exact k⟩)
theorem rC_of (O : XOk g X sc) {o : Co} {F H : Hp} {v u : V} {p q : PyData} {r : R} {Q : VK} (e : Same F H) (hp : Rv g.K F H v p) (hq : Rv g.K F H u q) (hr : (cmp2 o p q).map (fun c => R.b c) = some r) (k : ∀ w H', Mk g.K F H r w H' → Q w H') : rC X.K o v u H Q := by
  rw [Option.map_eq_some_iff] at hr
  obtain ⟨c, h1, rfl⟩ := hr
  exact ⟨F, p, q, c, e, by rw [O.eK]; exact hp, by rw [O.eK]; exact hq, h1, k _ _ (.old (.bl _))⟩
theorem snd_cmp {a b : Ex} {o : Co} {A B : Expr} {pos : Pos} (O : XOk g X sc) (ha : PE X A (tE g a)) (hb : PE X B (tE g b)) (hm : behindInMarks (coO o) B = false) : PE X (.Compare A [coO o] [B] pos) (tE g (.cmp o a b)) :=
  PE.weak (pe_cmpR (op_cmp (by have := O.room; omega) o) ha hb hm) (two (A := A) (B := B) (f := fun p q => (cmp2 o p q).map fun c => R.b c) (fun s => by simp only [ev]) fun F H v u p q r Q e hp hq hr k => rC_of O e hp hq hr k)
/-- a test by the value's reading, where the test's own rule wants the value's -/
theorem tT_tE {x : Ex} {t : TE} (h : ∀ σ H Q, tE g x σ H Q → t σ H Q) : ∀ σ H Q, tT g x σ H Q → t σ H (fun v H1 => ∃ k, v = .bl k ∧ Q k H1) := fun σ H Q ⟨E, F, ι, s, S0, r, s', b, h1, hb, k⟩ =>
  h σ H _ (tE.go S0 h1 fun v F1 ι1 H1 S1 st1 rr1 f1 => ⟨b, (S1.rv rr1 (asB_dat hb)).bl, k F1 ι1 H1 S1 st1⟩)
theorem snd_cmpT {a b : Ex} {o : Co} {A B : Expr} {pos : Pos} (O : XOk g X sc) (ha : PE X A (tE g a)) (hb : PE X B (tE g b)) (hm : behindInMarks (coO o) B = false) : PT X (.Compare A [coO o] [B] pos) (tT g (.cmp o a b)) :=
  PT.weak (pt_cmpR (op_cmp (by have := O.room; omega) o) ha hb hm) (tT_tE (two (A := A) (B := B) (f := fun p q => (cmp2 o p q).map fun c => R.b c) (fun s => by simp only [ev]) fun F H v u p q r Q e hp hq hr k => rC_of O e hp hq hr k))
theorem chain_r {a b c : Ex} {o o2 : Co} (O : XOk g X sc) : ∀ σ H Q, tE g (.cmp2 o o2 a b c) σ H Q → tChain (rC X.K o) (rC X.K o2) (tE g a) (tE g b) (tE g c) σ H Q := by
  intro σ H Q ⟨E, F, ι, s, S0, r, s', h1, k⟩
  simp only [ev] at h1
  replace h1 := bd_some h1
  obtain ⟨r1, s1, e1, h1⟩ := h1
  replace h1 := bd_some h1
  obtain ⟨r2, s2, e2, h1⟩ := h1
  replace h1 := bd_some h1
  obtain ⟨kk, s3, e3, h1⟩ := h1
  replace e3 := on_some e3
  obtain ⟨e3, rfl⟩ := e3
  rw [Option.bind_eq_some_iff] at e3
  obtain ⟨p, d1, e3⟩ := e3
  rw [Option.bind_eq_some_iff] at e3
  obtain ⟨q, d2, e3⟩ := e3
  refine tE.go S0 e1 fun v F1 ι1 H1 S1 st1 rr1 f1 => tE.go S1 e2 fun u F2 ι2 H2 S2 st2 rr2 f2 => ?_
  refine ⟨F2, p, q, kk, S2.sub, by rw [O.eK]; exact rr1.later S1 f1 st2 S2 p d1, by rw [O.eK]; exact S2.rv rr2 d2, e3, kk, rfl, ?_⟩
  cases kk with
  | false =>
    rw [if_neg Bool.false_ne_true] at h1
    cases h1
    rw [if_neg Bool.false_ne_true]
    exact k _ F2 ι2 H2 S2 (st1.trans st2) (.w (.d (.bl _))) fre_w
  | true =>
    rw [if_pos rfl] at h1
    rw [if_pos rfl]
    replace h1 := bd_some h1
    obtain ⟨r4, s4, e4, h1⟩ := h1
    replace h1 := on_some h1
    obtain ⟨h1, rfl⟩ := h1
    rw [Option.bind_eq_some_iff] at h1
    obtain ⟨p2, d3, h1⟩ := h1
    rw [Option.bind_eq_some_iff] at h1
    obtain ⟨q2, d4, h1⟩ := h1
    refine tE.go S2 e4 fun w F4 ι4 H4 S4 st4 rr4 f4 => ?_
    refine rC_of O S4.sub (rr2.later S2 f2 st4 S4 p2 d3) (S4.rv rr4 d4) h1 fun w' H' m => ?_
    obtain ⟨F5, S5, st5, rr5, f5⟩ := S4.made m
    exact k w' F5 ι4 H' S5 (((st1.trans st2).trans st4).trans st5) rr5 f5
theorem snd_cmp2 {a b c : Ex} {o o2 : Co} {A B C : Expr} {pos : Pos} (O : XOk g X sc) (ha : PE X A (tE g a)) (hb : PE X B (tE g b)) (hc : PE X C (tE g c)) (hm : behindInMarks (coO o2) C = false) : PE X (.Compare A [coO o, coO o2] [B, C] pos) (tE g (.cmp2 o o2 a b c)) :=
  PE.weak (pe_chain (op_cmp (by have := O.room; omega) o) (op_cmp (by have := O.room; omega) o2) ha hb hc hm) (chain_r O)
theorem snd_cmp2T {a b c : Ex} {o o2 : Co} {A B C : Expr} {pos : Pos} (O : XOk g X sc) (ha : PE X A (tE g a)) (hb : PE X B (tE g b)) (hc : PE X C (tE g c)) (hm : behindInMarks (coO o2) C = false) : PT X (.Compare A [coO o, coO o2] [B, C] pos) (tT g (.cmp2 o o2 a b c)) :=
  PT.weak (pt_chain (op_cmp (by have := O.room; omega) o) (op_cmp (by have := O.room; omega) o2) ha hb hc hm) (tT_tE (chain_r O))
end
end Xp

/-! E7: the expressions run as they are read, further. -/
namespace Xp
open PySem PySem.Spec PyProof.Rows L2
section
variable {g : Gd} {X : Cx} {sc : Scope}

/-! ### and, or, not, if -/
theorem tE_bool {a : Ex} {σ : L2.St} {H : Hp} {Q : VK} {E : Ent} {F : Hp} {ι : List Addr} {s s1 : S} {r1 : R} {c : Bool} (S0 : Stt g.K g.fa E F ι s σ H) (e1 : ev g.cal g.G a s = some (r1, s1)) (d1 : asB s1.st r1 = some c)
    (k : ∀ F' ι' H', Stt g.K g.fa E F' ι' s1 σ H' → Stp F ι H F' ι' H' → Q (.bl c) H') : tE g a σ H Q := tE.go S0 e1 fun v F1 ι1 H1 S1 st1 rr1 f1 => by
  rw [(S1.rv rr1 (asB_dat d1)).bl]
  exact k F1 ι1 H1 S1 st1
theorem snd_and {a b : Ex} {A B : Expr} {r : List Expr} {pos : Pos} (ha : PE X A (tE g a)) (hb : PE X (.BoolOp .And (B :: r) pos) (tE g b)) : PE X (.BoolOp .And (A :: B :: r) pos) (tE g (.and a b)) := by
  refine PE.weak (pe_and ha hb) fun σ H Q ⟨E, F, ι, s, S0, r, s', h1, k⟩ => ?_
  simp only [ev] at h1
  replace h1 := bd_some h1
  obtain ⟨r1, s1, e1, h1⟩ := h1
  replace h1 := bd_some h1
  obtain ⟨c, s2, e2, h1⟩ := h1
  replace e2 := on_some e2
  obtain ⟨e2, rfl⟩ := e2
  refine tE_bool S0 e1 e2 fun F1 ι1 H1 S1 st1 => ⟨c, rfl, ?_⟩
  cases c with
  | true =>
    rw [if_pos rfl] at h1 ⊢
    exact tE.go S1 h1 fun v F2 ι2 H2 S2 st2 rr2 f2 => k v F2 ι2 H2 S2 (st1.trans st2) rr2 f2
  | false =>
    rw [if_neg Bool.false_ne_true] at h1 ⊢
    cases h1
    exact k _ F1 ι1 H1 S1 st1 (.w (.d (.bl _))) fre_w
theorem snd_or {a b : Ex} {A B : Expr} {r : List Expr} {pos : Pos} (ha : PE X A (tE g a)) (hb : PE X (.BoolOp .Or (B :: r) pos) (tE g b)) : PE X (.BoolOp .Or (A :: B :: r) pos) (tE g (.or a b)) := by
  refine PE.weak (pe_or ha hb) fun σ H Q ⟨E, F, ι, s, S0, r, s', h1, k⟩ => ?_
  simp only [ev] at h1
  replace h1 := bd_some h1
  obtain ⟨r1, s1, e1, h1⟩ := h1
  replace h1 := bd_some h1
  obtain ⟨c, s2, e2, h1⟩ := h1
  replace e2 := on_some e2
  obtain ⟨e2, rfl⟩ := e2
  refine tE_bool S0 e1 e2 fun F1 ι1 H1 S1 st1 => ⟨c, rfl, ?_⟩
  cases c with
  | false =>
    rw [if_neg Bool.false_ne_true] at h1 ⊢
    exact tE.go S1 h1 fun v F2 ι2 H2 S2 st2 rr2 f2 => k v F2 ι2 H2 S2 (st1.trans st2) rr2 f2
  | true =>
    rw [if_pos rfl] at h1 ⊢
    cases h1
    exact k _ F1 ι1 H1 S1 st1 (.w (.d (.bl _))) fre_w
theorem snd_not {a : Ex} {A : Expr} {pos : Pos} (ha : PE X A (tE g a)) : PE X (.UnaryOp .Not A pos) (tE g (.not a)) := by
  refine PE.weak (pe_not ha) fun σ H Q ⟨E, F, ι, s, S0, r, s', h1, k⟩ => ?_
  simp only [ev] at h1
  replace h1 := bd_some h1
  obtain ⟨r1, s1, e1, h1⟩ := h1
  replace h1 := bd_some h1
  obtain ⟨c, s2, e2, h1⟩ := h1
  replace e2 := on_some e2
  obtain ⟨e2, rfl⟩ := e2
  cases h1
  exact tE_bool S0 e1 e2 fun F1 ι1 H1 S1 st1 => ⟨c, rfl, k _ F1 ι1 H1 S1 st1 (.w (.d (.bl _))) fre_w⟩
theorem snd_ite {c a b : Ex} {C A B : Expr} {pos : Pos} (hc : PT X C (tT g c)) (ha : PE X A (tE g a)) (hb : PE X B (tE g b)) : PE X (.IfExp C A B pos) (tE g (.ite c a b)) := by
  refine PE.weak (pe_ifExp hc ha hb) fun σ H Q ⟨E, F, ι, s, S0, r, s', h1, k⟩ => ?_
  simp only [ev] at h1
  replace h1 := bd_some h1
  obtain ⟨r1, s1, e1, h1⟩ := h1
  replace h1 := bd_some h1
  obtain ⟨kk, s2, e2, h1⟩ := h1
  replace e2 := on_some e2
  obtain ⟨e2, rfl⟩ := e2
  refine ⟨E, F, ι, s, S0, r1, s2, kk, e1, e2, fun F1 ι1 H1 S1 st1 => ?_⟩
  cases kk with
  | false =>
    rw [if_neg Bool.false_ne_true] at h1 ⊢
    exact tE.go S1 h1 fun v F2 ι2 H2 S2 st2 rr2 f2 => k v F2 ι2 H2 S2 (st1.trans st2) rr2 f2
  | true =>
    rw [if_pos rfl] at h1 ⊢
    exact tE.go S1 h1 fun v F2 ι2 H2 S2 st2 rr2 f2 => k v F2 ι2 H2 S2 (st1.trans st2) rr2 f2
/-- tests: and, or, not -/
theorem snd_andT {a b : Ex} {A B : Expr} {r : List Expr} {pos : Pos} (ha : PT X A (tT g a)) (hb : PW X (.BoolOp .And (B :: r) pos) (tT g b)) : PW X (.BoolOp .And (A :: B :: r) pos) (tT g (.and a b)) := by
  refine ⟨fun wh pins st σ H Q I h => (pw_and ha hb).run wh pins st σ H Q I ?_⟩
  obtain ⟨E, F, ι, s, S0, r, s', kb, h1, hb1, k⟩ := h
  simp only [ev] at h1
  replace h1 := bd_some h1
  obtain ⟨r1, s1, e1, h1⟩ := h1
  replace h1 := bd_some h1
  obtain ⟨kk, s2, e2, h1⟩ := h1
  replace e2 := on_some e2
  obtain ⟨e2, rfl⟩ := e2
  refine ⟨E, F, ι, s, S0, r1, s2, kk, e1, e2, fun F1 ι1 H1 S1 st1 => ?_⟩
  cases kk with
  | true =>
    rw [if_pos rfl] at h1 ⊢
    exact ⟨E, F1, ι1, s2, S1, r, s', kb, h1, hb1, fun F2 ι2 H2 S2 st2 => k F2 ι2 H2 S2 (st1.trans st2)⟩
  | false =>
    rw [if_neg Bool.false_ne_true] at h1 ⊢
    cases h1
    cases hb1
    exact k F1 ι1 H1 S1 st1
theorem snd_orT {a b : Ex} {A B : Expr} {r : List Expr} {pos : Pos} (ha : PT X A (tT g a)) (hb : PW X (.BoolOp .Or (B :: r) pos) (tT g b)) : PW X (.BoolOp .Or (A :: B :: r) pos) (tT g (.or a b)) := by
  refine ⟨fun wh pins st σ H Q I h => (pw_or ha hb).run wh pins st σ H Q I ?_⟩
  obtain ⟨E, F, ι, s, S0, r, s', kb, h1, hb1, k⟩ := h
  simp only [ev] at h1
  replace h1 := bd_some h1
  obtain ⟨r1, s1, e1, h1⟩ := h1
  replace h1 := bd_some h1
  obtain ⟨kk, s2, e2, h1⟩ := h1
  replace e2 := on_some e2
  obtain ⟨e2, rfl⟩ := e2
  refine ⟨E, F, ι, s, S0, r1, s2, kk, e1, e2, fun F1 ι1 H1 S1 st1 => ?_⟩
  cases kk with
  | false =>
    rw [if_neg Bool.false_ne_true] at h1 ⊢
    exact ⟨E, F1, ι1, s2, S1, r, s', kb, h1, hb1, fun F2 ι2 H2 S2 st2 => k F2 ι2 H2 S2 (st1.trans st2)⟩
  | true =>
    rw [if_pos rfl] at h1 ⊢
    cases h1
    cases hb1
    exact k F1 ι1 H1 S1 st1
theorem snd_notT {a : Ex} {A : Expr} {pos : Pos} (ha : PT X A (tT g a)) : PT X (.UnaryOp .Not A pos) (tT g (.not a)) := by
  refine PT.weak (pt_not ha) fun σ H Q ⟨E, F, ι, s, S0, r, s', kb, h1, hb1, k⟩ => ?_
  simp only [ev] at h1
  replace h1 := bd_some h1
  obtain ⟨r1, s1, e1, h1⟩ := h1
  replace h1 := bd_some h1
  obtain ⟨c, s2, e2, h1⟩ := h1
  replace e2 := on_some e2
  obtain ⟨e2, rfl⟩ := e2
  cases h1
  cases hb1
  exact ⟨E, F, ι, s, S0, r1, _, c, e1, e2, fun F1 ι1 H1 S1 st1 => k F1 ι1 H1 S1 st1⟩

/-! ### argument lists, displays, calls -/
theorem star_of {e : Expr} {es : List Expr} {env : Env} (h : notStar e = true) : starEach (e :: es) env = (false, eval e env) :: starEach es env := by
  cases e <;> first | rfl | cases h
theorem snd_nil : PA X [] (tAs g .nil) := PA.weak pa_nil fun σ H Q ⟨E, F, ι, s, S0, ws, s', h1, k⟩ => by
  simp only [evs] at h1
  cases h1
  exact k [] F ι H S0 Stp.rfl .nil
theorem snd_cons {a : Ex} {as : Exs} {A : Expr} {l : List Expr} (ha : PE X A (tE g a)) (hl : PA X l (tAs g as)) (hn : notStar A = true) : PA X (A :: l) (tAs g (.cons a as)) :=
  PA.weak (pa_cons ha hl (star_of hn)) fun σ H Q ⟨E, F, ι, s, S0, ws, s', h1, k⟩ => by
    simp only [evs] at h1
    replace h1 := bd_some h1
    obtain ⟨r1, s1, e1, h1⟩ := h1
    replace h1 := bd_some h1
    obtain ⟨w, s2, e2, h1⟩ := h1
    replace e2 := on_some e2
    obtain ⟨e2, rfl⟩ := e2
    replace h1 := bd_some h1
    obtain ⟨us, s3, e3, h1⟩ := h1
    cases h1
    refine tE.go S0 e1 fun v F1 ι1 H1 S1 st1 rr1 f1 => ?_
    obtain ⟨F2, S2, st2, q2⟩ := S1.froze rr1 f1 e2
    exact ⟨E, F2, ι1, _, S2, us, _, e3, fun vs F3 ι3 H3 S3 st3 q3 => k _ F3 ι3 H3 S3 ((st1.trans st2).trans st3) (.cons (q2.mono st3) q3)⟩
theorem asD_of {K : PySem.W.Frag} {fa : Nat → Option Addr} {F : Hp} {ι : List Addr} : ∀ {vs : List V} {ws : List W} {ds : List PyData}, RWs K fa F ι vs ws → asD ws = some ds → DqAll K F vs ds
  | _, _, _, .nil, h => by cases h; exact .nil
  | _, _, ds, @RWs.cons _ _ _ _ v vs w ws q r, h => by
    cases q with
    | d q =>
      simp only [asD, Option.map_eq_some_iff] at h
      obtain ⟨es, h1, rfl⟩ := h
      exact .cons q (asD_of r h1)
    | cell q => cases h
    | fn q => cases h
    | known q => cases h
theorem evs_len {cal : Nat → List W → List Cell → Option (R × List Cell)} {G : List PyData} {N : List Str} {L : Lk} {sc : Scope} : ∀ (es : Exs) (l : List Expr) {s s' : S} {ws : List W}, chks N L es sc l = true → evs cal G es s = some (ws, s') → ws.length = l.length
  | .nil, l, s, s', ws, hc, h => by
    simp only [evs] at h
    cases h
    cases l with
    | nil => rfl
    | cons a b => simp [chks] at hc
  | .cons a as, l, s, s', ws, hc, h => by
    simp only [evs] at h
    replace h := bd_some h
    obtain ⟨r1, s1, e1, h1⟩ := h
    replace h1 := bd_some h1
    obtain ⟨w, s2, e2, h1⟩ := h1
    replace e2 := on_some e2
    obtain ⟨e2, rfl⟩ := e2
    replace h1 := bd_some h1
    obtain ⟨us, s3, e3, h1⟩ := h1
    cases h1
    cases l with
    | nil => simp [chks] at hc
    | cons x r =>
      simp only [chks, Bool.and_eq_true] at hc
      rw [List.length_cons, List.length_cons, evs_len as r hc.1.2 e3]
theorem asD_len : ∀ {ws : List W} {ds : List PyData}, asD ws = some ds → ds.length = ws.length
  | [], _, h => by cases h; rfl
  | .d x :: r, ds, h => by
    simp only [asD, Option.map_eq_some_iff] at h
    obtain ⟨es, h1, rfl⟩ := h
    rw [List.length_cons, List.length_cons, asD_len h1]
  | .cell _ :: _, _, h => by cases h
  | .fn _ :: _, _, h => by cases h
  | .known _ :: _, _, h => by cases h
theorem snd_tup {es : Exs} {l : List Expr} {k2 : Nat} {pos : Pos} (h : PA X l (tAs g es)) (hc : chks g.N g.L es sc l = true) (hl : l.length ≤ 1000) : PE X (.Tuple l k2 pos) (tE g (.tup es)) := by
  refine PE.weak (pe_tup h) fun σ H Q ⟨E, F, ι, s, S0, r, s', h1, k⟩ => ?_
  simp only [ev] at h1
  replace h1 := bd_some h1
  obtain ⟨ws, s1, e1, h1⟩ := h1
  replace h1 := on_some h1
  obtain ⟨h1, rfl⟩ := h1
  rw [Option.map_eq_some_iff] at h1
  obtain ⟨ds, h2, rfl⟩ := h1
  refine ⟨E, F, ι, s, S0, ws, s', e1, fun vs F1 ι1 H1 S1 st1 q1 => ⟨?_, fun p hp => ?_⟩⟩
  · rw [q1.len, evs_len es l hc e1, sizeL]
    omega
  · obtain ⟨F2, S2, st2, rr2, f2⟩ := S1.made (Mk.tup hp (asD_of q1 h2))
    exact k _ F2 ι1 _ S2 (st1.trans st2) rr2 f2
theorem snd_lst {es : Exs} {l : List Expr} {pos : Pos} (h : PA X l (tAs g es)) (hc : chks g.N g.L es sc l = true) (hl : l.length ≤ 1000) : PE X (.List l pos) (tE g (.lst es)) := by
  refine PE.weak (pe_lst h) fun σ H Q ⟨E, F, ι, s, S0, r, s', h1, k⟩ => ?_
  simp only [ev] at h1
  replace h1 := bd_some h1
  obtain ⟨ws, s1, e1, h1⟩ := h1
  replace h1 := on_some h1
  obtain ⟨h1, rfl⟩ := h1
  rw [Option.map_eq_some_iff] at h1
  obtain ⟨ds, h2, rfl⟩ := h1
  refine ⟨E, F, ι, s, S0, ws, s', e1, fun vs F1 ι1 H1 S1 st1 q1 => ⟨?_, fun p hp => ?_⟩⟩
  · rw [q1.len, evs_len es l hc e1, sizeL]
    omega
  · obtain ⟨F2, S2, st2, rr2, f2⟩ := S1.made (Mk.lst hp (asD_of q1 h2))
    exact k _ F2 ι1 _ S2 (st1.trans st2) rr2 f2
/-- behind a call the caller's state stands -/
theorem Stt.after {K : PySem.W.Frag} {fa : Nat → Option Addr} {E : Ent} {F H F' H' : Hp} {ι ι' : List Addr} {s : S} {σ : L2.St} {st' : List Cell} {v : V} {r : R} (S0 : Stt K fa E F ι s σ H) (c : Cd K fa F ι H F' ι' H' st' v r) :
    Stt K fa E F' ι' ⟨s.sl, st'⟩ σ H' ∧ Fre E ⟨s.sl, st'⟩ σ v r := by
  have own : ∀ i xs a, OwnAt s i xs → σ[i]? = some (some (.ref a)) → H a ≠ none ∧ Own K F' ι' H' a xs := fun i xs a o e => by
    obtain ⟨w, q1, q2, q3⟩ := S0.slot _ _ o
    rw [e] at q1
    cases q1
    cases q2 with
    | own o =>
      obtain ⟨vs, e1, e2⟩ := o.ex
      refine ⟨by rw [e1]; simp, ⟨vs, c.step.ext _ _ e1 o.ni, dpa_mono c.step.fz _ _ e2⟩, ?_, fun z => ?_⟩
      · cases z : F' a with
        | none => rfl
        | some u =>
          rcases c.nofz a u z with z | z
          · rw [o.nf] at z; cases z
          · rw [e1] at z; cases z
      · rcases c.step.imem z with z | z
        · exact o.ni z
        · rw [e1] at z; cases z
  refine ⟨{ sub := c.sub, step := S0.step.trans c.step, nofz := fun b o z => ?_, len := S0.len, slot := fun i r0 h => ?_, new := S0.new, dist := S0.dist, st := c.cs.st, nfz := c.cs.nfz, stl := c.cs.stl, nd := c.cs.nd, res := fun b hb => ?_ }, fun xs a e1 e2 => ?_⟩
  · rcases c.nofz b o z with z | z
    · exact S0.nofz b o z
    · exact .inr (S0.step.dom b z)
  · obtain ⟨w, q1, q2, q3⟩ := S0.slot i r0 h
    refine ⟨w, q1, ?_, q3⟩
    cases q2 with
    | w q => exact .w (q.mono c.step)
    | @own a xs o => exact .own (own i xs a h q1).2
    | bor o => exact absurd rfl (q3 _)
  · obtain ⟨h1, h2, h3, h4⟩ := S0.res b hb
    refine ⟨?_, fun z => h2 (c.step.dom b z), fun z => ?_, h4⟩
    · cases z : F' b with
      | none => rfl
      | some u =>
        rcases c.nofz b u z with z | z
        · rw [h1] at z; cases z
        · exact absurd z h2
    · rcases c.step.imem z with z | z
      · exact h3 z
      · exact h2 z
  · have hn := c.fre xs a e1 e2
    refine ⟨S0.step.dom a hn, fun i ys o hi => ?_, fun hb => (S0.res a hb).2.1 hn⟩
    rw [e2] at hi
    exact (own i ys a o hi).1 hn
theorem pe_callX {a : Addr} {r : List V → Hp → VK → Prop} {x : Str} {p pos : Pos} {e : Expr} {es : List Expr} {t : TA} (hc : CallR X (.ref a) r) (hk : PySem.W.keepIn X.K (.ref a) = true) (hg : Gl X x) (hm : X.mg x = some (.ref a)) (hd : (x == ("__debug__" : Str)) = false)
    (ha : PA X (e :: es) t) (he : starEach (e :: es) X.env = (false, eval e X.env) :: starEach es X.env) (hpl : (backTo pos (starEach es X.env)).any (·.1) = false) : PE X (.Call (.Name x p) (e :: es) [] pos) (tCB r t) := by
  refine ⟨fun pins s σ H Q I h => wpAny_Call_Name_kw (ld_glob I hg hm ?_ hd)⟩
  exact PySem.W.callWith_K (h₀ := X.base) I.ok.mod.kin hk (thn (ha.run pos pins s σ H _ I h) fun us s1 ⟨vs, H1, I1, r, q⟩ => ⟨I1.kIn, hc pins s1 σ H1 vs us Q I1 r q⟩) he hpl
theorem plain_args {N : List Str} {L : Lk} {sc : Scope} {env : Env} {pos : Pos} : ∀ (es : Exs) (l : List Expr), chks N L es sc l = true → (backTo pos (starEach l env)).any (·.1) = false
  | .nil, l, h => by
    cases l with
    | nil => rfl
    | cons a b => simp [chks] at h
  | .cons a as, l, h => by
    cases l with
    | nil => simp [chks] at h
    | cons x r =>
      simp only [chks, Bool.and_eq_true] at h
      rw [star_of h.2]
      have ih := plain_args (pos := pos) (env := env) as r h.1.2
      unfold backTo at ih ⊢
      rw [List.map_cons, List.any_cons, ih]
      rfl
theorem cal_r {f : Nat} {es : Exs} {x : Ex} (hx : ∀ s, ev g.cal g.G x s = bd (evs g.cal g.G es s) fun ws s1 => (match g.cal f ws s1.st with
    | some (r, st) => some (r, ⟨s1.sl, st⟩)
    | none => none)) : ∀ σ H Q, tE g x σ H Q → tCB (fun vs H Q => spF g f vs H Q fun _ _ _ => False) (tAs g es) σ H Q := by
  intro σ H Q ⟨E, F, ι, s, S0, r, s', h1, k⟩
  rw [hx] at h1
  replace h1 := bd_some h1
  obtain ⟨ws, s1, e1, h1⟩ := h1
  refine ⟨E, F, ι, s, S0, ws, s1, e1, fun vs F1 ι1 H1 S1 st1 q1 => ?_⟩
  cases c : g.cal f ws s1.st with
  | none => rw [c] at h1; cases h1
  | some y =>
    obtain ⟨r2, st2⟩ := y
    rw [c] at h1
    cases h1
    refine ⟨F1, ι1, s1.st, ws, S1.sub, S1.cs, q1, _, _, c, fun v F' ι' H' cd => ?_⟩
    obtain ⟨S2, f2⟩ := S1.after cd
    exact k v F' ι' H' S2 (st1.trans cd.step) cd.rr f2
theorem snd_cal (O : XOk g X sc) {f : Nat} {es : Exs} {x : Str} {p pos : Pos} {y : Expr} {l : List Expr} (h1 : okG sc x = true) (h2 : g.L.fn[f]? = some x) (hc : chks g.N g.L es sc (y :: l) = true) (ha : PA X (y :: l) (tAs g es)) : PE X (.Call (.Name x p) (y :: l) [] pos) (tE g (.cal f es)) := by
  obtain ⟨g1, g2⟩ := okG_gl O h1
  obtain ⟨a, q1, q2, q3⟩ := O.fns f x h2
  obtain ⟨_, q4⟩ := O.fcl f a q1
  cases es with
  | nil => simp [chks] at hc
  | cons b bs =>
    have hc2 := hc
    simp only [chks, Bool.and_eq_true] at hc2
    exact PE.weak (pe_callX (q4 X rfl rfl rfl rfl rfl rfl) q3 g1 q2 g2 ha (star_of hc2.2) (plain_args bs l hc2.1.2)) (cal_r fun s => by simp only [ev]; try rfl)
theorem snd_cal0 (O : XOk g X sc) {f : Nat} {x : Str} {p pos : Pos} (h1 : okG sc x = true) (h2 : g.L.fn[f]? = some x) : PE X (.Call (.Name x p) [] [] pos) (tE g (.cal f .nil)) := by
  obtain ⟨g1, g2⟩ := okG_gl O h1
  obtain ⟨a, q1, q2, q3⟩ := O.fns f x h2
  obtain ⟨_, q4⟩ := O.fcl f a q1
  refine ⟨fun pins s σ H Q I h => ?_⟩
  have rd := (cal_r (g := g) (f := f) (es := .nil) (x := .cal f .nil) (fun s => by simp only [ev]; try rfl)) σ H Q h
  obtain ⟨E, F, ι, s0, S0, ws, s1, e1, k⟩ := rd
  simp only [evs] at e1
  cases e1
  refine wpAny_Call_Name_kw (ld_glob I g1 q2 ?_ g2)
  exact PySem.W.callWith_K0 I.kIn q3 (q4 X rfl rfl rfl rfl rfl rfl pins s σ H [] [] Q I .nil (k [] F ι H S0 Stp.rfl .nil))
end
end Xp

/-! E8: built-in functions, subscripts, slices, iterables. -/
namespace Xp
open PySem PySem.Spec PyProof.Rows L2
section
variable {g : Gd} {X : Cx} {sc : Scope}
theorem pa1 {A : Expr} {t : TE} (ha : PE X A t) (hn : notStar A = true) : PA X [A] (tCons t tNil) := pa_cons ha pa_nil (star_of hn)
theorem pa2 {A B : Expr} {t u : TE} (ha : PE X A t) (hb : PE X B u) (hn : notStar A = true) (hm : notStar B = true) : PA X [A, B] (tCons t (tCons u tNil)) := pa_cons ha (pa1 hb hm) (star_of hn)
theorem plain0 {env : Env} {pos : Pos} : (backTo pos (starEach [] env)).any (·.1) = false := rfl
theorem plain1 {A : Expr} {env : Env} {pos : Pos} (hn : notStar A = true) : (backTo pos (starEach [A] env)).any (·.1) = false := by
  rw [star_of hn]
  rfl
theorem free_of (O : XOk g X sc) {x : Str} (h : bnames.contains x = true) : X.mg x = none := O.blt x (by simpa using h)
theorem one_r (O : XOk g X sc) {f : U1} {a : Ex} {x : Ex} (he : ∀ s, ev g.cal g.G x s = bd (ev g.cal g.G a s) fun x s1 => on ((x.dat s1.st).bind fun p => un1 f p) s1) :
    ∀ σ H Q, tE g x σ H Q → tCB (rU X.K f) (tCons (tE g a) tNil) σ H Q := fun σ H Q h =>
  one (r1 := fun v H Q => rU X.K f [v] H Q) he (fun F H v p r Q e hp hr k => ⟨v, F, p, r, rfl, e, by rw [O.eK]; exact hp, hr, by rw [O.eK]; exact k⟩) σ H Q h
theorem two_r (O : XOk g X sc) {f : U2} {a b : Ex} {A B : Expr} {x : Ex} (he : ∀ s, ev g.cal g.G x s = bd (ev g.cal g.G a s) fun x s1 => bd (ev g.cal g.G b s1) fun y s2 => on ((x.dat s2.st).bind fun p => (y.dat s2.st).bind fun q => un2 f p q) s2) :
    ∀ σ H Q, tE g x σ H Q → tCB (rU2 X.K f) (tCons (tE g a) (tCons (tE g b) tNil)) σ H Q := fun σ H Q h =>
  two (A := A) (B := B) (r2 := fun v u H Q => rU2 X.K f [v, u] H Q) he (fun F H v u p q r Q e hp hq hr k => ⟨v, u, F, p, q, r, rfl, e, by rw [O.eK]; exact hp, by rw [O.eK]; exact hq, hr, by rw [O.eK]; exact k⟩) σ H Q h
theorem u1_fun (O : XOk g X sc) {f : U1} {a : Ex} {id : String} {nm : Str} {A : Expr} {p pos : Pos} (hc : CallR X (.builtin id) (rU X.K f)) (hv : bootBuiltins nm = some (.builtin id)) (hb : bnames.contains nm = true) (hn : nm ≠ "__name__") (h1 : okG sc nm = true)
    (he : ∀ s, ev g.cal g.G (.u1 f a) s = bd (ev g.cal g.G a s) fun x s1 => on ((x.dat s1.st).bind fun p => un1 f p) s1) (ha : PE X A (tE g a)) (hs : notStar A = true) : PE X (.Call (.Name nm p) [A] [] pos) (tE g (.u1 f a)) := by
  obtain ⟨g1, g2⟩ := okG_gl O h1
  exact PE.weak (pe_callB hc g1 (free_of O hb) hv (pa1 ha hs) hn g2 (star_of hs) plain0) (one_r O he)
theorem u1_ty (O : XOk g X sc) {f : U1} {a : Ex} {T : String} {nm : Str} {A : Expr} {p pos : Pos} (hc : CallR X (.type T) (rU X.K f)) (hv : bootBuiltins nm = some (.type T)) (hb : bnames.contains nm = true) (hn : nm ≠ "__name__") (h1 : okG sc nm = true)
    (he : ∀ s, ev g.cal g.G (.u1 f a) s = bd (ev g.cal g.G a s) fun x s1 => on ((x.dat s1.st).bind fun p => un1 f p) s1) (ha : PE X A (tE g a)) (hs : notStar A = true) : PE X (.Call (.Name nm p) [A] [] pos) (tE g (.u1 f a)) := by
  obtain ⟨g1, g2⟩ := okG_gl O h1
  exact PE.weak (pe_callTy hc g1 (free_of O hb) hv (pa1 ha hs) hn g2 (star_of hs) plain0) (one_r O he)
theorem snd_u1 (O : XOk g X sc) {f : U1} {a : Ex} {nm : Str} {A : Expr} {p pos : Pos} (hf : nm = u1name f) (hne : nm ≠ "") (h1 : okG sc nm = true) (ha : PE X A (tE g a)) (hs : notStar A = true) : PE X (.Call (.Name nm p) [A] [] pos) (tE g (.u1 f a)) := by
  have hu : X.A.units + 70 < cLine := by have := O.room; omega
  subst hf
  cases f with
  | neg => exact absurd rfl hne
  | rev => exact absurd rfl hne
  | setsorted => exact absurd rfl hne
  | isT T => exact absurd rfl hne
  | len => exact u1_fun O cu_len PySem.boot_len (by decide +kernel) (by decide +kernel) h1 (fun s => by simp only [ev]) ha hs
  | abs => exact u1_fun O cu_abs (by decide +kernel) (by decide +kernel) (by decide +kernel) h1 (fun s => by simp only [ev]) ha hs
  | maxl => exact u1_fun O (cu_max O.calm) (by decide +kernel) (by decide +kernel) (by decide +kernel) h1 (fun s => by simp only [ev]) ha hs
  | minl => exact u1_fun O (cu_min O.calm) (by decide +kernel) (by decide +kernel) (by decide +kernel) h1 (fun s => by simp only [ev]) ha hs
  | sum => exact u1_fun O (cu_sum O.calm) (by decide +kernel) (by decide +kernel) (by decide +kernel) h1 (fun s => by simp only [ev]) ha hs
  | any => exact u1_fun O (cu_any O.calm) (by decide +kernel) (by decide +kernel) (by decide +kernel) h1 (fun s => by simp only [ev]) ha hs
  | all => exact u1_fun O (cu_all O.calm) (by decide +kernel) (by decide +kernel) (by decide +kernel) h1 (fun s => by simp only [ev]) ha hs
  | sorted => exact u1_fun O cu_sorted (by decide +kernel) (by decide +kernel) (by decide +kernel) h1 (fun s => by simp only [ev]) ha hs
  | repr => exact u1_fun O (cu_repr O.grd hu) (by decide +kernel) (by decide +kernel) (by decide +kernel) h1 (fun s => by simp only [ev]) ha hs
  | list => exact u1_ty O cu_list (by decide +kernel) (by decide +kernel) (by decide +kernel) h1 (fun s => by simp only [ev]) ha hs
  | tuple => exact u1_ty O cu_tuple (by decide +kernel) (by decide +kernel) (by decide +kernel) h1 (fun s => by simp only [ev]) ha hs
  | int => exact u1_ty O cu_int (by decide +kernel) (by decide +kernel) (by decide +kernel) h1 (fun s => by simp only [ev]) ha hs
  | str => exact u1_ty O cu_str (by decide +kernel) (by decide +kernel) (by decide +kernel) h1 (fun s => by simp only [ev]) ha hs
theorem snd_neg (O : XOk g X sc) {a : Ex} {A : Expr} {pos : Pos} (ha : PE X A (tE g a)) : PE X (.UnaryOp .USub A pos) (tE g (.u1 .neg a)) :=
  PE.weak (pe_un un_negR ha) fun σ H Q h => one (r1 := fun v H Q => rU X.K .neg [v] H Q) (fun s => by simp only [ev]) (fun F H v p r Q e hp hr k => ⟨v, F, p, r, rfl, e, by rw [O.eK]; exact hp, hr, by rw [O.eK]; exact k⟩) σ H Q h
theorem ty_boot {T : String} (h : tynames.contains T = true) : bootBuiltins (Str.ofString T) = some (.type T) ∧ bnames.contains (Str.ofString T) = true ∧ Str.ofString T ≠ "__name__" := by
  have : T = "int" ∨ T = "bool" ∨ T = "str" ∨ T = "tuple" ∨ T = "list" := by simpa [tynames] using h
  rcases this with rfl | rfl | rfl | rfl | rfl <;> exact ⟨by decide +kernel, by decide +kernel, by decide +kernel⟩
theorem snd_isT (O : XOk g X sc) {T : String} {a : Ex} {A : Expr} {p p2 pos : Pos} (h1 : okG sc "isinstance" = true) (h2 : okG sc (Str.ofString T) = true) (hT : tynames.contains T = true) (ha : PE X A (tE g a)) (hs : notStar A = true) :
    PE X (.Call (.Name "isinstance" p) [A, .Name (Str.ofString T) p2] [] pos) (tE g (.u1 (.isT T) a)) := by
  obtain ⟨g1, g2⟩ := okG_gl O h1
  obtain ⟨g3, g4⟩ := okG_gl O h2
  obtain ⟨t1, t2, t3⟩ := ty_boot hT
  refine PE.weak (pe_callB (cu_isT T) g1 (free_of O (by decide +kernel)) (by decide +kernel) (pa2 ha (pe_bltn (v := .ty T) g3 (free_of O t2) t1 rfl t3 g4) hs rfl) (by decide +kernel) g2 (star_of hs) (plain1 rfl)) fun σ H Q h => ?_
  exact one (a := a) (f := un1 (.isT T)) (r1 := fun v H Q => (fun xs H Q => ∃ x, xs = [x, .ty T] ∧ rU X.K (.isT T) [x] H Q) [v, .ty T] H Q) (fun s => by simp only [ev]) (fun F H v p r Q e hp hr k => ⟨v, rfl, v, F, p, r, rfl, e, by rw [O.eK]; exact hp, hr, by rw [O.eK]; exact k⟩) σ H Q h
theorem u2_fun (O : XOk g X sc) {f : U2} {a b : Ex} {id : String} {nm : Str} {A B : Expr} {p pos : Pos} (hc : CallR X (.builtin id) (rU2 X.K f)) (hv : bootBuiltins nm = some (.builtin id)) (hb : bnames.contains nm = true) (hn : nm ≠ "__name__") (h1 : okG sc nm = true)
    (he : ∀ s, ev g.cal g.G (.u2 f a b) s = bd (ev g.cal g.G a s) fun x s1 => bd (ev g.cal g.G b s1) fun y s2 => on ((x.dat s2.st).bind fun p => (y.dat s2.st).bind fun q => un2 f p q) s2) (ha : PE X A (tE g a)) (hb2 : PE X B (tE g b)) (hs : notStar A = true) (hs2 : notStar B = true) :
    PE X (.Call (.Name nm p) [A, B] [] pos) (tE g (.u2 f a b)) := by
  obtain ⟨g1, g2⟩ := okG_gl O h1
  exact PE.weak (pe_callB hc g1 (free_of O hb) hv (pa2 ha hb2 hs hs2) hn g2 (star_of hs) (plain1 hs2)) (two_r (A := A) (B := B) O he)
theorem snd_max (O : XOk g X sc) {a b : Ex} {A B : Expr} {p pos : Pos} (h1 : okG sc "max" = true) (ha : PE X A (tE g a)) (hb2 : PE X B (tE g b)) (hs : notStar A = true) (hs2 : notStar B = true) : PE X (.Call (.Name "max" p) [A, B] [] pos) (tE g (.u2 .max a b)) :=
  u2_fun O (cu_max2 O.calm) (by decide +kernel) (by decide +kernel) (by decide +kernel) h1 (fun s => by simp only [ev]) ha hb2 hs hs2
theorem snd_min (O : XOk g X sc) {a b : Ex} {A B : Expr} {p pos : Pos} (h1 : okG sc "min" = true) (ha : PE X A (tE g a)) (hb2 : PE X B (tE g b)) (hs : notStar A = true) (hs2 : notStar B = true) : PE X (.Call (.Name "min" p) [A, B] [] pos) (tE g (.u2 .min a b)) :=
  u2_fun O (cu_min2 O.calm) (by decide +kernel) (by decide +kernel) (by decide +kernel) h1 (fun s => by simp only [ev]) ha hb2 hs hs2
theorem snd_gcd (O : XOk g X sc) {a b : Ex} {A B : Expr} {p pos : Pos} (hgc : X.mg "gcd" = some (.builtin "math.gcd")) (h1 : okG sc "gcd" = true) (ha : PE X A (tE g a)) (hb2 : PE X B (tE g b)) (hs : notStar A = true) (hs2 : notStar B = true) : PE X (.Call (.Name "gcd" p) [A, B] [] pos) (tE g (.u2 .gcd a b)) := by
  obtain ⟨g1, g2⟩ := okG_gl O h1
  exact PE.weak (pe_callBfun (cu_gcd O.calm) g1 hgc (pa2 ha hb2 hs hs2) g2 (star_of hs) (plain1 hs2)) (two_r (f := .gcd) (A := A) (B := B) O (fun s => by simp only [ev]))
theorem base_const {o : Expr} {n : Str} {env : Env} (h : isConst o = true) : attributeBase o n env (eval o env) = eval o env := by
  cases o <;> first | rfl | cases h
theorem snd_join (O : XOk g X sc) {a b : Ex} {A B : Expr} {apos pos : Pos} (hc : isConst A = true) (hl : (apos.endLine == pos.line) = true) (ha : PE X A (tE g a)) (hb : PE X B (tE g b)) (hs : notStar B = true) : PE X (.Call (.Attribute A "join" apos) [B] [] pos) (tE g (.u2 .join a b)) := by
  refine PE.weak (pe_m1 PySem.F.slot_str_join PySem.F.type_str_join op_join ha hb (star_of hs) (base_const hc) hl) fun σ H Q ⟨E, F, ι, s, S0, r, s', h1, k⟩ => ?_
  simp only [ev] at h1
  replace h1 := bd_some h1
  obtain ⟨r1, s1, e1, h1⟩ := h1
  replace h1 := bd_some h1
  obtain ⟨r2, s2, e2, h1⟩ := h1
  obtain ⟨h2, e9⟩ := on_some h1
  subst e9
  rw [Option.bind_eq_some_iff] at h2
  obtain ⟨p, d1, h2⟩ := h2
  rw [Option.bind_eq_some_iff] at h2
  obtain ⟨q, d2, h2⟩ := h2
  have hstr : ∃ z, p = .str z := by cases p <;> first | exact ⟨_, rfl⟩ | (cases q <;> cases h2)
  obtain ⟨z, rfl⟩ := hstr
  refine tE.go S0 e1 fun v F1 ι1 H1 S1 st1 rr1 f1 => ⟨?_, tE.go S1 e2 fun u F2 ι2 H2 S2 st2 rr2 f2 => ?_⟩
  · -- a text: its kind does not hang on the shared lists
    cases rr1 with
    | w q =>
      cases q with
      | @d v x q =>
        have e0 : x = .str z := Option.some.inj d1
        subst e0
        cases q
        exact ⟨_, rfl⟩
      | cell q =>
        simp only [R.dat, Option.map_eq_some_iff] at d1
        obtain ⟨_, _, d1⟩ := d1
        cases d1
      | fn q => cases d1
      | known q => cases d1
    | own q => cases d1
    | bor q => cases d1
  · refine ⟨u, rfl, v, u, F2, .str z, q, r, rfl, S2.sub, by rw [O.eK]; exact rr1.later S1 f1 st2 S2 _ d1, by rw [O.eK]; exact S2.rv rr2 d2, h2, fun w H' m => ?_⟩
    rw [O.eK] at m
    obtain ⟨F3, S3, st3, rr3, f3⟩ := S2.made m
    exact k w F3 ι2 H' S3 ((st1.trans st2).trans st3) rr3 f3

/-! ### subscripts, slices -/
theorem plainIx {B : Expr} (h : notSlice B = true) : PlainIx B := fun o i => by cases B <;> first | rfl | cases h
theorem snd_ix (O : XOk g X sc) {a b : Ex} {A B : Expr} {pos : Pos} (ha : PE X A (tE g a)) (hb : PE X B (tE g b)) (hs : notSlice B = true) : PE X (.Subscript A B pos) (tE g (.ix a b)) :=
  PE.weak (pe_ix op_ix ha hb (plainIx hs)) (two (A := A) (B := B) (f := ix2) (fun s => by simp only [ev]) fun F H v u p q r Q e hp hq hr k => ⟨F, p, q, r, e, by rw [O.eK]; exact hp, by rw [O.eK]; exact hq, hr, by rw [O.eK]; exact k⟩)
theorem snd_nopart : PO X none (tPa g .nopart) := PO.weak po_none fun σ H Q ⟨E, F, ι, s, S0, o, s', h1, k⟩ => by
  simp only [evp] at h1
  cases h1
  exact k F ι H S0 Stp.rfl
theorem evp_ne {x : Ex} (h : x ≠ .nopart) {cal : Nat → List W → List Cell → Option (R × List Cell)} {G : List PyData} {s : S} : evp cal G x s = bd (ev cal G x s) fun x s1 => on ((asI s1.st x).map some) s1 := by
  cases x <;> first | exact absurd rfl h | simp only [evp]
theorem snd_part {a : Ex} {A : Expr} (hx : a ≠ .nopart) (ha : PE X A (tE g a)) : PO X (some A) (tPa g a) := PO.weak (po_some ha) fun σ H Q ⟨E, F, ι, s, S0, o, s', h1, k⟩ => by
  rw [evp_ne hx] at h1
  replace h1 := bd_some h1
  obtain ⟨r1, s1, e1, h1⟩ := h1
  obtain ⟨h2, e9⟩ := on_some h1
  subst e9
  rw [Option.map_eq_some_iff] at h2
  obtain ⟨i, d1, e0⟩ := h2
  subst e0
  exact tE.go S0 e1 fun v F1 ι1 H1 S1 st1 rr1 f1 => ⟨i, (S1.rv rr1 (asI_dat d1)).int, k F1 ι1 H1 S1 st1⟩
theorem snd_sl (O : XOk g X sc) {a lo hi : Ex} {A : Expr} {l h : Option Expr} {p2 pos : Pos} (ha : PE X A (tE g a)) (hl : PO X l (tPa g lo)) (hh : PO X h (tPa g hi)) : PE X (.Subscript A (.Slice l h none p2) pos) (tE g (.sl a lo hi)) := by
  refine PE.weak (pe_slice op_sl ha hl hh) fun σ H Q ⟨E, F, ι, s, S0, r, s', h1, k⟩ => ?_
  simp only [ev] at h1
  replace h1 := bd_some h1
  obtain ⟨r1, s1, e1, h1⟩ := h1
  replace h1 := bd_some h1
  obtain ⟨o1, s2, e2, h1⟩ := h1
  replace h1 := bd_some h1
  obtain ⟨o2, s3, e3, h1⟩ := h1
  obtain ⟨h2, e9⟩ := on_some h1
  subst e9
  rw [Option.bind_eq_some_iff] at h2
  obtain ⟨p, d1, h2⟩ := h2
  refine tE.go S0 e1 fun v F1 ι1 H1 S1 st1 rr1 f1 => ⟨E, F1, ι1, s1, S1, o1, s2, e2, fun F2 ι2 H2 S2 st2 => ⟨E, F2, ι2, s2, S2, o2, _, e3, fun F3 ι3 H3 S3 st3 => ?_⟩⟩
  refine ⟨F3, p, r, S3.sub, by rw [O.eK]; exact rr1.later S1 f1 (st2.trans st3) S3 _ d1, h2, fun w H' m => ?_⟩
  rw [O.eK] at m
  obtain ⟨F4, S4, st4, rr4, f4⟩ := S3.made m
  exact k w F4 ι3 H' S4 (((st1.trans st2).trans st3).trans st4) rr4 f4
/-- list(x) of the known list -/
theorem snd_scr (O : XOk g X sc) {a : Ex} {A : Expr} {p pos : Pos} (h1 : okG sc "list" = true) (ha : PE X A (tE g a)) (hs : notStar A = true) : PE X (.Call (.Name "list" p) [A] [] pos) (tE g (.scr a)) := by
  obtain ⟨g1, g2⟩ := okG_gl O h1
  refine PE.weak (pe_callTy call_list_of g1 (free_of O (by decide +kernel)) (by decide +kernel) (pa1 ha hs) (by decide +kernel) g2 (star_of hs) plain0) fun σ H Q ⟨E, F, ι, s, S0, r, s', h1, k⟩ => ?_
  simp only [ev] at h1
  replace h1 := bd_some h1
  obtain ⟨r1, s1, e1, h1⟩ := h1
  obtain ⟨h2, e9⟩ := on_some h1
  subst e9
  split at h2
  · cases h2
    refine tE.go S0 e1 fun v F1 ι1 H1 S1 st1 rr1 f1 => ?_
    cases rr1 with
    | w q =>
      cases q with
      | @known a0 _ q =>
        refine ⟨a0, _, rfl, .inl (by rw [O.eK]; exact S1.sub.seq q), fun l hl => ?_⟩
        obtain ⟨F3, S3, st3, rr3, f3⟩ := S1.made (Mk.lst hl dqa_of_ints)
        exact k _ F3 ι1 _ S3 (st1.trans st3) rr3 f3
  · cases h2
theorem snd_rev {a : Ex} {A : Expr} {k : Nat} {p1 p2 p3 pos : Pos} (ha : PE X A (tE g a)) : PE X (.Subscript A (.Slice none none (some (.UnaryOp .USub (.Constant (.int 1) k p1) p2)) p3) pos) (tE g (.u1 .rev a)) :=
  PE.weak (pe_revL ha) fun σ H Q ⟨E, F, ι, s, S0, r, s', h1, k⟩ => by
    simp only [ev] at h1
    obtain ⟨r1, s1, e1, h2⟩ := bd_some h1
    obtain ⟨h3, e9⟩ := on_some h2
    cases e9
    rw [Option.bind_eq_some_iff] at h3
    obtain ⟨p, d1, h4⟩ := h3
    refine tE.go S0 e1 fun v F1 ι1 H1 S1 st1 rr1 f1 => ?_
    have rv := S1.rv rr1 d1
    cases p with
    | list xs =>
      obtain ⟨a, vs, rfl, q1, q2⟩ := rv
      refine ⟨a, vs, rfl, SqL.of q1, fun p np => ?_⟩
      cases h4
      obtain ⟨F3, S3, st3, rr3, f3⟩ := S1.made (Mk.lst np (dpa_rev q2))
      exact k _ F3 ι1 _ S3 (st1.trans st3) rr3 f3
    | _ => cases h4
end
end Xp

/-! EnT: enumerate(a tuple). -/
namespace Xp
open PySem PySem.Spec PyProof.Rows L2
set_option maxHeartbeats 1000000 in
theorem meets_enumerate_newB1 {v : Value} {o : Obj} {H : Heap → Prop} (B : Begins v o H) :
    Meets (Builtin.«enumerate.__new__» ⟨[.type "enumerate", v], []⟩) (fun _ R s => H s.heap ∧
      R (.ok (.ret (.ref (s.heap.push o).objs.size))) { s with heap := (s.heap.push o).push { cls := .type "enumerate", data := .fields #[.none, .bool false, .ref s.heap.objs.size, rawInt 0, .none, .none] } }) :=
  .of_wp fun prog w A R s h => by
    obtain ⟨hp, g, d, tk, os⟩ := s; obtain ⟨h1, h⟩ := h
    have hsub := sub_enumerate
    have q1 : ∀ {A' : Around} {E : Value → Shared → Prop} {Q : Value → Shared → Prop}, Q (.ref hp.objs.size) ⟨hp.push o, g, d, tk, os⟩ → wpAny (model prog w) A' (pyIter v) Q E ⟨hp, g, d, tk, os⟩ :=
      fun q => B.iter prog w _ _ ⟨hp, g, d, tk, os⟩ _ h1 q
    wp_walk using q1
    refine wpAny_stack_any fun st => wpAny_pure ?_
    split
    · rename_i c _ _ _ _ _
      cases (c == Value.type "enumerate")
      · wp_walk using q1
        exact ⟨_, rfl, h⟩
      · wp_walk using q1
        exact ⟨_, rfl, h⟩
    · wp_walk using q1
      exact ⟨_, rfl, h⟩
theorem wpAny_pyNext_enum_end0 {prog : Program} {w : World} {A : Around} {E : Value → Shared → Prop} {s : Shared} {e it l : Addr} {i : Nat} {items : Array Value} {old : Value} {Q : Option Value → Shared → Prop} (hh : A.handled = none)
    (he : IsEnum s.heap e it i old) (hit : s.heap.IsTupleIter it l i) (hl : s.heap.IsTuple l items) (hx : items[i]? = none)
    (hQ : ∀ h', Heap.ExtBut it s.heap h' → Q none { s with heap := h' }) : wpAny (model prog w) A (pyNext (.ref e)) Q E s := by
  have hT : s.TypeIs (.ref e) "enumerate" := ⟨_, he, rfl⟩
  unfold pyNext
  refine wpAny_bind (wpAny_attempt (wpAny_callSpecial?_slot (name := Str.ofString "__next__") hT F.slot_enumerate_next
    (wpAny_call_entry F.slot_enumerate_next hT F.entry_enumerate_next ?_ (F.args_enumerate_next_1 _))))
  show wpAny _ _ (field (.ref e) 2 >>= _) _ _ _
  refine wpAny_bind (wpAny_field he rfl (x := .ref it) rfl ?_)
  refine wpAny_bind (wpAny_nextOf_tuple_end hh hit hl hx fun h' x he' hx' => ?_)
  obtain ⟨o, ho, hc⟩ := hx'
  refine wpAny_bind (wpAny_isInstance (T := "StopIteration") (b := true) ⟨o, ho, hc⟩ isSubtype_stop ?_)
  exact wpAny_pure (hQ _ he')
theorem call_enumerate_tup {prog : Program} {w : World} {A : Around} {E : Value → Shared → Prop} {s : Shared} {t : Addr} {items : Array Value} {Q : Value → Shared → Prop} (hL : s.heap.IsTuple t items)
    (h : ∀ h', IsEnum h' (s.heap.objs.size + 1) s.heap.objs.size 0 .none → h'.IsTupleIter s.heap.objs.size t 0 → h'.objs.size = s.heap.objs.size + 2 →
      (∀ b o, s.heap.get? b = some o → h'.get? b = some o) → Q (.ref (s.heap.objs.size + 1)) { s with heap := h' }) :
    wpAny (model prog w) A (PySem.call (.type "enumerate") [.ref t]) Q E s := by
  refine callType_new F.called_enumerate (by decide) (F.typeCall_enumerate_1 _) (F.newCall_enumerate_1 _) (fun obj => F.args_object_init_2 obj _) F.entry_enumerate_new
    (meets_enumerate_newB1 (begins_tuple t items)) ⟨hL, ?_⟩
  have hz : (s.heap.push { cls := .type "tuple_iterator", data := .fields #[.ref t, .int 0 0] }).objs.size = s.heap.objs.size + 1 := Heap.size_push ..
  show _ ∧ _
  rw [hz]
  have he : IsEnum ((s.heap.push { cls := .type "tuple_iterator", data := .fields #[.ref t, .int 0 0] }).push
      { cls := .type "enumerate", data := .fields #[.none, .bool false, .ref s.heap.objs.size, rawInt 0, .none, .none] }) (s.heap.objs.size + 1) s.heap.objs.size 0 .none := by
    have := Heap.get?_push_size (s.heap.push { cls := .type "tuple_iterator", data := .fields #[.ref t, .int 0 0] })
      (o := { cls := .type "enumerate", data := .fields #[.none, .bool false, .ref s.heap.objs.size, rawInt 0, .none, .none] }) rfl
    rw [hz] at this; exact this
  refine ⟨⟨_, he, rfl⟩, h _ he ⟨_, Heap.get?_push_of_some _ (Heap.get?_push_size _ rfl), rfl, rfl⟩ (by rw [Heap.size_push, hz]) fun b o x => Heap.get?_push_of_some _ (Heap.get?_push_of_some _ x)⟩
/-- the tuple at a, each item in a new pair -/
def ItE (K : PySem.W.Frag) (a : Addr) : L2.It :=
  ⟨fun i H => ∃ (xs : List V) (x : V), SqT K H a xs ∧ xs[i]? = some x, fun i H v H' => ∃ T x, v = .ref T ∧ H T = none ∧ H' = upd H T (.tup [.int (i : Nat), x]) ∧ ∀ xs, SqT K H a xs → xs[i]? = some x, fun i H => ∃ xs : List V, SqT K H a xs ∧ xs.length ≤ i⟩
theorem turn_enumT {P : Program} {w : World} {K : PySem.W.Frag} {elts : List Expr} {kk : Nat} {tpos : Pos} (a e it : Addr) (hai : a ≠ it) (hae : a ≠ e) :
    Turn P w K (.Tuple elts kk tpos) (ItE K a) [e, it] e (fun i h => (∃ old, IsEnum h e it ((i : Nat) : Int) old) ∧ h.IsTupleIter it a i ∧ e ≠ it) where
  mem := by simp
  obj := fun i h st b hb => by
    obtain ⟨⟨old, he⟩, ⟨o, ho, hc, hd⟩, _⟩ := st
    have e' : b = e ∨ b = it := by simpa using hb
    rcases e' with z | z
    · rw [z]; exact ⟨_, he, fun v q => nomatch q⟩
    · rw [z]; exact ⟨o, ho, fun v q => by rw [hd] at q; cases q⟩
  keep := fun i h h' st k => let ⟨⟨old, he⟩, hi, hne⟩ := st; ⟨⟨old, k e (by simp) _ he⟩, hi.at fun o q => k it (by simp) o q, hne⟩
  item := by
    intro X hP hw hK hc i pins s σ H E I hf st hg
    subst hP hw hK
    obtain ⟨⟨old, he⟩, hit, hne⟩ := st
    obtain ⟨xs, x, hq, hx⟩ := hg
    obtain ⟨its, rv, p, hz⟩ := I.tuple hq
    obtain ⟨u, hu, ru⟩ := rv.get hx
    have hlt : i < its.toArray.size := by
      have := (List.getElem?_eq_some_iff.mp hu).1
      simpa using this
    have hel : e < s.heap.objs.size := Heap.lt_size he
    have hil : it < s.heap.objs.size := by obtain ⟨_, q, _⟩ := hit; exact Heap.lt_size q
    refine wpAny_pyNext_enum_itemD (Draws.tuple (A := X.A.in1) (show X.A.in1.handled = none from I.ok.hd hc) it a hai its.toArray) he ⟨hit, p⟩ hlt hne (by simp [hne, Ne.symm hae]) fun u' h' tk hPu ho st' hT hsz hk => ?_
    have eu : u' = u := by
      have : its.toArray[i]? = some u := by simpa using hu
      rw [this] at hPu
      exact (Option.some.inj hPu).symm
    subst eu
    refine ⟨_, rfl, wpAny_letOwnedTupleGo_enum (s := { s with heap := h', toks := tk + 1 }) ho fun h'' he' sb => ?_⟩
    have hT2 : h''.get? s.heap.objs.size = some { cls := .type "tuple", data := .seq #[.int i tk, u'] } := (sb.2 _ (Nat.ne_of_gt hel)).trans hT
    have new : ObjOk X.prog X.w (upd H s.heap.objs.size (.tup [.int (i : Nat), x])) h'' s.heap.objs.size (.tup [.int (i : Nat), x]) :=
      ⟨by show 2 ≤ sizeLine; decide, [.int i tk, u'], .cons ⟨_, rfl⟩ (.cons ru .nil), ⟨_, hT2, rfl, _, rfl⟩⟩
    have I1 : Inv X pins σ (upd H s.heap.objs.size (.tup [.int (i : Nat), x])) { s with heap := h'', toks := tk + 1 } :=
      I.turnedNew (ch := [e, it]) (fun b ob hb q => (sb.2 b (fun z => hb (by simp [z]))).trans (hk b ob (fun z => hb (by simp [z])) (fun z => hb (by simp [z])) q)) hf (Nat.le_refl _) new
    refine ⟨.ref s.heap.objs.size, _, I1, rfl, ⟨_, x, rfl, I.hok.fresh (Nat.le_refl _), rfl, fun ys hy => by rw [I.tuple_inj hy hq]; exact hx⟩, ⟨⟨u', ?_⟩, st'.1.at fun o q => (sb.2 it (Ne.symm hne)).trans q, hne⟩, fun b hb => ?_⟩
    · have e1 : ((i + 1 : Nat) : Int) = (i : Int) + 1 := by omega
      rw [e1]; exact he'
    · have hb' : b < s.heap.objs.size := by
        have e' : b = e ∨ b = it := by simpa using hb
        rcases e' with z | z
        · rw [z]; exact hel
        · rw [z]; exact hil
      rw [upd_ne (Nat.ne_of_lt hb')]
      exact (hf b hb).1
  done := by
    intro X hP hw hK hc i pins s σ H E I hf st hg
    subst hP hw hK
    obtain ⟨⟨old, he⟩, hit, hne⟩ := st
    obtain ⟨xs, hq, hx⟩ := hg
    obtain ⟨its, rv, p, hz⟩ := I.tuple hq
    obtain ⟨f0, f1, f2, f3, f4, f5⟩ := hf it (by simp)
    have hl := rv.length
    have hnone : its.toArray[i]? = none := by
      simp only [List.getElem?_toArray]
      exact List.getElem?_eq_none (by omega)
    refine wpAny_pyNext_enum_end0 (I.ok.hd hc) he hit p hnone fun h' eb => ⟨rfl, I.turned (t' := s.toks) (fun b o hb q => eb b o hb q) f0 f1 f3 f4 f5⟩
  self := fun A i s Q E st h => let ⟨⟨_, he⟩, _⟩ := st; wpAny_pyIter_enum he h
theorem pi_enumT {X : Cx} {e : Expr} {ta : TA} {p pos tpos : Pos} {elts : List Expr} {kk : Nat} (hg : Gl X "enumerate") (hm : X.mg "enumerate" = none) (ha : PA X [e] ta) (hs : starEach [e] X.env = [(false, eval e X.env)] := by rfl) :
    PI X (.Tuple elts kk tpos) (.Call (.Name "enumerate" p) [e] [] pos) (fun σ H R => ta σ H fun vs H1 => ∃ a xs, vs = [.ref a] ∧ ((SqL X.K H1 a xs ∧ R (Ite X.K a) H1) ∨ (SqT X.K H1 a xs ∧ R (ItE X.K a) H1))) := by
  refine ⟨fun pins s σ H R I h => ?_⟩
  refine Call_ (ld_blt I hg hm boot_enumerate (PyProof.Rows.callWith_type1 (thn (ha.run pos pins s σ H _ I h) fun us s1 ⟨vs, H1, I1, r1, q1⟩ => ?_) hs rfl))
  obtain ⟨a, xs, ex, hq⟩ := q1
  subst ex
  cases r1 with
  | cons r rr =>
    cases rr
    cases r
    rcases hq with ⟨hq, q⟩ | ⟨hq, q⟩
    · obtain ⟨its, rv, p', hz⟩ := I1.list hq
      refine call_enumerate_list p'.isList fun h' he hit hsz hk => wpAny_pyIter_enum he ?_
      have I2 : Inv X pins σ H1 { s1 with heap := h' } := I1.kept (t' := s1.toks) hk
      refine ⟨s1.heap.objs.size + 1, [s1.heap.objs.size + 1, s1.heap.objs.size], _, _, H1, rfl, I2, turn_enum a (s1.heap.objs.size + 1) s1.heap.objs.size, ⟨⟨.none, he⟩, hit, Nat.succ_ne_self _⟩, fun b hb => ?_, q⟩
      have e' : b = s1.heap.objs.size + 1 ∨ b = s1.heap.objs.size := by simpa using hb
      have hle : s1.heap.objs.size ≤ b := by
        rcases e' with z | z
        · rw [z]; exact Nat.le_add_right _ _
        · rw [z]; exact Nat.le_refl _
      exact I1.fpOk hle (I1.hok.fresh hle)
    · obtain ⟨its, rv, p', hz⟩ := I1.tuple hq
      have hal : a < s1.heap.objs.size := by obtain ⟨o, e1, _⟩ := p'; exact Heap.lt_size e1
      refine call_enumerate_tup p' fun h' he hit hsz hk => wpAny_pyIter_enum he ?_
      have I2 : Inv X pins σ H1 { s1 with heap := h' } := I1.kept (t' := s1.toks) hk
      refine ⟨s1.heap.objs.size + 1, [s1.heap.objs.size + 1, s1.heap.objs.size], _, _, H1, rfl, I2, turn_enumT a (s1.heap.objs.size + 1) s1.heap.objs.size (Nat.ne_of_lt hal) (Nat.ne_of_lt (Nat.lt_succ_of_lt hal)), ⟨⟨.none, he⟩, hit, Nat.succ_ne_self _⟩, fun b hb => ?_, q⟩
      have e' : b = s1.heap.objs.size + 1 ∨ b = s1.heap.objs.size := by simpa using hb
      have hle : s1.heap.objs.size ≤ b := by
        rcases e' with z | z
        · rw [z]; exact Nat.le_add_right _ _
        · rw [z]; exact Nat.le_refl _
      exact I1.fpOk hle (I1.hok.fresh hle)
end Xp

/-! E9: targets, iterables, comprehensions. -/
namespace Xp
open PySem PySem.Spec PyProof.Rows L2
section
variable {g : Gd} {X : Cx} {sc : Scope}

/-! ### targets -/
theorem Stt.setW {K : PySem.W.Frag} {fa : Nat → Option Addr} {E : Ent} {F H : Hp} {ι : List Addr} {s : S} {σ : L2.St} (S0 : Stt K fa E F ι s σ H) {v : V} {w : W} {i : Nat} (q : RW K fa F ι v w) (il : i < s.sl.length) :
    Stt K fa E F ι ⟨s.sl.set i (some (.w w)), s.st⟩ (σ.set i (some v)) H := by
  have iσ : i < σ.length := by rw [S0.len]; exact il
  have ne : ∀ j (r : R), (s.sl.set i (some (.w w)))[j]? = some (some r) → (j = i ∧ r = .w w) ∨ (j ≠ i ∧ s.sl[j]? = some (some r)) := fun j r hj => by
    by_cases e : i = j
    · subst e
      rw [List.getElem?_set_self il] at hj
      cases hj
      exact .inl ⟨rfl, rfl⟩
    · rw [List.getElem?_set_ne e] at hj
      exact .inr ⟨fun z => e z.symm, hj⟩
  have neo : ∀ j ys, OwnAt ⟨s.sl.set i (some (.w w)), s.st⟩ j ys → j ≠ i ∧ OwnAt s j ys := fun j ys o' => by
    rcases ne j _ o' with ⟨_, z⟩ | z
    · cases z
    · exact z
  refine { sub := S0.sub, step := S0.step, nofz := S0.nofz, len := by simp [S0.len], slot := fun j r hj => ?_, new := fun j ys b o' hb => ?_, dist := fun j l ys zs hjl o1 o2 => ?_, st := S0.st, nfz := S0.nfz, stl := S0.stl, nd := S0.nd, res := fun b hb => ?_ }
  · rcases ne j r hj with ⟨rfl, rfl⟩ | ⟨n1, n2⟩
    · exact ⟨v, List.getElem?_set_self iσ, .w q, fun _ z => by cases z⟩
    · obtain ⟨u, q1, q2, q3⟩ := S0.slot j r n2
      exact ⟨u, by rw [List.getElem?_set_ne (Ne.symm n1)]; exact q1, q2, q3⟩
  · obtain ⟨n1, n2⟩ := neo j ys o'
    rw [List.getElem?_set_ne (Ne.symm n1)] at hb
    exact S0.new j ys b n2 hb
  · obtain ⟨n1, n2⟩ := neo j ys o1
    obtain ⟨n3, n4⟩ := neo l zs o2
    rw [List.getElem?_set_ne (Ne.symm n1), List.getElem?_set_ne (Ne.symm n3)]
    exact S0.dist j l ys zs hjl n2 n4
  · obtain ⟨h1, h2, h3, h4⟩ := S0.res b hb
    refine ⟨h1, h2, h3, fun j ys o' => ?_⟩
    obtain ⟨n1, n2⟩ := neo j ys o'
    rw [List.getElem?_set_ne (Ne.symm n1)]
    exact h4 j ys n2
theorem wipe_get : ∀ (vs : List Nat) (σ : L2.St) (j : Nat), (L2.wipe σ vs)[j]? = if j ∈ vs then (σ[j]?).map (fun _ => none) else σ[j]?
  | [], σ, j => by simp [L2.wipe]
  | v :: vs, σ, j => by
    unfold L2.wipe
    rw [List.getElem?_set, wipe_get vs σ j]
    by_cases e : v = j
    · subst e
      rw [if_pos rfl, if_pos List.mem_cons_self, L2.wipe_length]
      by_cases c : v < σ.length
      · rw [if_pos c, List.getElem?_eq_getElem c]
        rfl
      · rw [if_neg c, List.getElem?_eq_none (by omega)]
        rfl
    · rw [if_neg e]
      have : (j ∈ v :: vs) = (j ∈ vs) := by simp [Ne.symm e]
      simp only [this]
theorem wipe_set {σ : L2.St} {i : Nat} {x : Option V} {ws : List Nat} (h : i ∈ ws) : L2.wipe (σ.set i x) ws = L2.wipe σ ws := by
  apply List.ext_getElem?
  intro j
  rw [wipe_get, wipe_get]
  by_cases c : j ∈ ws
  · rw [if_pos c, if_pos c, List.getElem?_set]
    by_cases e : i = j
    · subst e
      rw [if_pos rfl]
      by_cases l : i < σ.length
      · rw [if_pos l, List.getElem?_eq_getElem l]
        rfl
      · rw [if_neg l, List.getElem?_eq_none (by omega)]
    · rw [if_neg e]
  · rw [if_neg c, if_neg c, List.getElem?_set_ne]
    rintro rfl
    exact c h
theorem bindT_len : ∀ (tg : Tg) (x : PyData) {l l2 : List (Option R)}, bindT tg x l = some l2 → l2.length = l.length
  | .v i, x, l, l2, h => by
    simp only [bindT] at h
    obtain ⟨c, h⟩ := ite_some h
    rw [← h]
    simp
  | .nil, .tuple [], l, l2, h => by
    simp only [bindT] at h
    cases h
    rfl
  | .cons t r, .tuple (x :: xs), l, l2, h => by
    simp only [bindT, Option.bind_eq_some_iff] at h
    obtain ⟨l3, h1, h2⟩ := h
    rw [bindT_len r _ h2, bindT_len t _ h1]
  | .nil, .tuple (_ :: _), _, _, h => by simp [bindT] at h
  | .nil, .none, _, _, h => by simp [bindT] at h
  | .nil, .bool _, _, _, h => by simp [bindT] at h
  | .nil, .int _, _, _, h => by simp [bindT] at h
  | .nil, .str _, _, _, h => by simp [bindT] at h
  | .nil, .list _, _, _, h => by simp [bindT] at h
  | .nil, .dict _, _, _, h => by simp [bindT] at h
  | .cons _ _, .tuple [], _, _, h => by simp [bindT] at h
  | .cons _ _, .none, _, _, h => by simp [bindT] at h
  | .cons _ _, .bool _, _, _, h => by simp [bindT] at h
  | .cons _ _, .int _, _, _, h => by simp [bindT] at h
  | .cons _ _, .str _, _, _, h => by simp [bindT] at h
  | .cons _ _, .list _, _, _, h => by simp [bindT] at h
  | .cons _ _, .dict _, _, _, h => by simp [bindT] at h
/-- the names of a scope may be stored -/
def Sto (X : Cx) (sc : Scope) : Prop := ∀ x, (sc.names.lookup x = some .local → X.env.scope.names.lookup x = some .local) ∧ (sc.names.lookup x = some .cell → X.env.scope.names.lookup x = some .cell ∧ X.fn x = true)
theorem asg_of {e : Expr} {es : List Expr} {env : Env} (h : notStar e = true) : assignEach (e :: es) env = (false, assign e env) :: assignEach es env := by
  cases e <;> first | rfl | cases h
theorem asg_plain {N : List Str} : ∀ (tg : Tg) (es : List Expr) {env : Env}, chkTs N tg sc es = true → (assignEach es env).length = es.length ∧ (assignEach es env).findIdx? (·.1) = none
  | .nil, es, env, h => by
    simp only [chkTs, List.isEmpty_iff] at h
    subst h
    exact ⟨rfl, rfl⟩
  | .cons t r, [], env, h => by simp [chkTs] at h
  | .cons t r, e :: es, env, h => by
    rw [chkTs_cons] at h
    simp only [Bool.and_eq_true] at h
    obtain ⟨h1, h2⟩ := asg_plain r es (env := env) h.1.2
    rw [asg_of h.2, List.length_cons, List.length_cons, h1, List.findIdx?_cons, h2]
    exact ⟨rfl, rfl⟩
  | .v i, es, env, h => by simp [chkTs] at h
theorem bindT_tup : ∀ (tg : Tg) (es : List Expr) {N : List Str} {xs : List PyData} {l l2 : List (Option R)}, chkTs N tg sc es = true → bindT tg (.tuple xs) l = some l2 → xs.length = es.length
  | .nil, es, N, xs, l, l2, hc, h => by
    simp only [chkTs, List.isEmpty_iff] at hc
    subst hc
    cases xs with
    | nil => rfl
    | cons a b => simp [bindT] at h
  | .cons t r, [], N, xs, l, l2, hc, h => by simp [chkTs] at hc
  | .cons t r, e :: es, N, xs, l, l2, hc, h => by
    rw [chkTs_cons] at hc
    simp only [Bool.and_eq_true] at hc
    cases xs with
    | nil => simp [bindT] at h
    | cons a b =>
      simp only [bindT, Option.bind_eq_some_iff] at h
      obtain ⟨l3, h1, h2⟩ := h
      rw [List.length_cons, List.length_cons, bindT_tup r es hc.1.2 h2]
  | .v i, es, N, xs, l, l2, hc, h => by simp [chkTs] at hc
theorem bindT_isTup : ∀ (tg : Tg) (x : PyData) {l l2 : List (Option R)}, (∀ i, tg ≠ .v i) → bindT tg x l = some l2 → ∃ xs, x = .tuple xs := by
  intro tg x l l2 hn h
  cases tg with
  | v i => exact absurd rfl (hn i)
  | nil => cases x <;> first | exact ⟨_, rfl⟩ | simp [bindT] at h
  | cons t r => cases x <;> first | exact ⟨_, rfl⟩ | simp [bindT] at h
theorem snd_tgv (O : XOk g X sc) {sc0 : Scope} (B : Sto X sc0) {i : Nat} {e : Expr} (h : chkV g.N i sc0 e = true) : PG X e (gT g (.v i)) := by
  unfold chkV at h
  split at h
  · rename_i x pos
    simp only [Bool.and_eq_true, decide_eq_true_eq] at h
    have hx : sc0.names.lookup x = some .local ∨ sc0.names.lookup x = some .cell := by
      have h2 := h.2
      split at h2
      · exact .inl (by assumption)
      · exact .inr (by assumption)
      · cases h2
    have hf : Loc X.env.scope x ∧ (X.fn x = true ∨ X.env.scope.names.lookup x = some .local) := by
      rcases hx with q | q
      · have := (B x).1 q
        exact ⟨.inl this, .inr this⟩
      · have := (B x).2 q
        exact ⟨.inr this.1, .inl this.2⟩
    refine PG.weak (pg_name O.nd (by rw [O.eN]; exact h.1) hf.1 hf.2) fun v σ H Q ⟨E, F, ι, s, d, S0, hd, l, hb, k⟩ => ?_
    simp only [bindT] at hb
    obtain ⟨c, hb⟩ := ite_some hb
    subst hb
    exact k _ (S0.setW (.d hd) c) fun ws hw => wipe_set (hw i (by simp [tgv]))
  · cases h
theorem tg_of (O : XOk g X sc) {sc0 : Scope} {tg : Tg} {es : List Expr} {k0 : Nat} {pos : Pos} (hn : ∀ i, tg ≠ .v i) (h : chkTs g.N tg sc0 es = true) (ih : PGs X es (gTs g tg)) : PG X (.Tuple es k0 pos) (gT g tg) := by
  obtain ⟨h1, h2⟩ := asg_plain (sc := sc0) tg es (env := X.env) h
  refine PG.weak (pg_tup O.calm ih rfl h2) fun v σ H Q ⟨E, F, ι, s, d, S0, hd, l, hb, k⟩ => ?_
  obtain ⟨xs, rfl⟩ := bindT_isTup tg d hn hb
  cases hd with
  | tup q r => exact ⟨_, _, rfl, by rw [O.eK]; exact sqT_mono S0.sub q, by rw [h1, dpa_len r]; exact bindT_tup tg es h hb, E, F, ι, s, xs, S0, r, l, hb, k⟩
theorem snd_tgs (O : XOk g X sc) {sc0 : Scope} (B : Sto X sc0) : ∀ (tg : Tg) (es : List Expr), chkTs g.N tg sc0 es = true → PGs X es (gTs g tg)
  | .nil, es, h => by
    simp only [chkTs, List.isEmpty_iff] at h
    subst h
    refine ⟨fun pins s σ H vs us Q I r q => pgs_nil.run pins s σ H vs us Q I r ?_⟩
    obtain ⟨E, F, ι, s, xs, S0, hd, l, hb, k⟩ := q
    cases xs with
    | nil =>
      simp only [bindT] at hb
      cases hb
      cases hd
      exact ⟨rfl, k σ S0 fun _ _ => rfl⟩
    | cons a b => simp [bindT] at hb
  | .cons t r, [], h => by simp [chkTs] at h
  | .cons t r, e :: es, h => by
    have iht := fun l => snd_tgs O B t l
    have ihr := snd_tgs O B r es
    rw [chkTs_cons] at h
    simp only [Bool.and_eq_true] at h
    have pt : PG X e (gT g t) := by
      have h1 := h.1.1
      cases t with
      | v i => exact snd_tgv O B h1
      | nil =>
        simp only [chkT] at h1
        split at h1
        · exact tg_of O (fun i z => by cases z) h1 (iht _ h1)
        · cases h1
      | cons t1 t2 =>
        simp only [chkT] at h1
        split at h1
        · exact tg_of O (fun i z => by cases z) h1 (iht _ h1)
        · cases h1
    refine ⟨fun pins s σ H vs us Q I rr q => (pgs_cons pt (ihr h.1.2) (by rw [asg_of h.2]; rfl)).run pins s σ H vs us Q I rr ?_⟩
    obtain ⟨E, F, ι, s, xs, S0, hd, l, hb, k⟩ := q
    cases xs with
    | nil => simp [bindT] at hb
    | cons a b =>
      simp only [bindT, Option.bind_eq_some_iff] at hb
      obtain ⟨l3, h1, h2⟩ := hb
      cases hd with
      | cons d1 d2 => exact ⟨_, _, rfl, E, F, ι, s, a, S0, d1, l3, h1, fun σ' S1 w1 => ⟨E, F, ι, ⟨l3, s.st⟩, b, S1, d2, l, h2, fun σ2 S2 w2 => k σ2 S2 fun ws hw => (w2 ws fun i hi => hw i (by simp [tgv, hi])).trans (w1 ws fun i hi => hw i (by simp [tgv, hi]))⟩⟩
  | .v i, es, h => by simp [chkTs] at h
theorem snd_tg (O : XOk g X sc) {sc0 : Scope} (B : Sto X sc0) (t : Tg) (e : Expr) (h1 : chkT g.N t sc0 e = true) : PG X e (gT g t) := by
  cases t with
  | v i => exact snd_tgv O B h1
  | nil =>
    simp only [chkT] at h1
    split at h1
    · exact tg_of O (fun i z => by cases z) h1 (snd_tgs O B _ _ h1)
    · cases h1
  | cons t1 t2 =>
    simp only [chkT] at h1
    split at h1
    · exact tg_of O (fun i z => by cases z) h1 (snd_tgs O B _ _ h1)
    · cases h1

/-! ### iterables -/
theorem it_list {K : PySem.W.Frag} {F : Hp} {a : Addr} {vs : List V} {xs : List PyData} (h : F a = some (.lst vs)) (q : DqAll K F vs xs) : ItOk K F (Itl K a) xs := fun H e => by
  refine ⟨fun i x hx => ?_, ⟨vs, SqL.of (e _ _ h), by rw [dpa_len q]; exact Nat.le_refl _⟩⟩
  obtain ⟨v, h1, h2⟩ := dpa_get q hx
  refine ⟨⟨vs, v, SqL.of (e _ _ h), h1⟩, fun w H' y => ?_⟩
  obtain ⟨e1, y⟩ := y
  subst e1
  have := y vs (SqL.of (e _ _ h))
  rw [h1] at this
  cases this
  exact .old h2
theorem it_tup {K : PySem.W.Frag} {F : Hp} {a : Addr} {vs : List V} {xs : List PyData} (h : SqT K F a vs) (q : DqAll K F vs xs) : ItOk K F (Itt K a) xs := fun H e => by
  have hT := sqT_mono e h
  refine ⟨fun i x hx => ?_, ⟨vs, hT, by rw [dpa_len q]; exact Nat.le_refl _⟩⟩
  obtain ⟨v, h1, h2⟩ := dpa_get q hx
  refine ⟨⟨vs, v, hT, h1⟩, fun w H' y => ?_⟩
  obtain ⟨e1, y⟩ := y
  subst e1
  have := y vs hT
  rw [h1] at this
  cases this
  exact .old h2
theorem rngD_get : ∀ (n : Nat) (lo : Int) (i : Nat) (x : PyData), (rngD lo n)[i]? = some x → i < n ∧ x = .int (lo + i)
  | 0, lo, i, x, h => by simp [rngD] at h
  | n + 1, lo, 0, x, h => by
    simp [rngD] at h
    subst h
    simp
  | n + 1, lo, i + 1, x, h => by
    obtain ⟨h1, h2⟩ := rngD_get n (lo + 1) i x (by simpa [rngD] using h)
    refine ⟨by omega, ?_⟩
    rw [h2]
    congr 1
    omega
theorem rngD_len : ∀ (n : Nat) (lo : Int), (rngD lo n).length = n
  | 0, _ => rfl
  | n + 1, lo => by rw [rngD, List.length_cons, rngD_len n]
theorem it_rng {K : PySem.W.Frag} {F : Hp} (lo : Int) (n : Nat) : ItOk K F (Itr lo n) (rngD lo n) := fun H e => by
  refine ⟨fun i x hx => ?_, by rw [rngD_len]; exact Nat.le_refl _⟩
  obtain ⟨h1, rfl⟩ := rngD_get n lo i x hx
  refine ⟨h1, fun w H' y => ?_⟩
  obtain ⟨rfl, rfl⟩ := y
  exact .old (.int _)
theorem enumD_get : ∀ (xs : List PyData) (k : Int) (i : Nat) (x : PyData), (enumD k xs)[i]? = some x → ∃ y, xs[i]? = some y ∧ x = .tuple [.int (k + i), y]
  | [], k, i, x, h => by simp [enumD] at h
  | a :: r, k, 0, x, h => by
    simp [enumD] at h
    subst h
    exact ⟨a, rfl, by simp⟩
  | a :: r, k, i + 1, x, h => by
    obtain ⟨y, h1, h2⟩ := enumD_get r (k + 1) i x (by simpa [enumD] using h)
    refine ⟨y, by simpa using h1, ?_⟩
    rw [h2, show k + 1 + (i : Int) = k + ((i + 1 : Nat) : Int) by omega]
theorem enumD_len : ∀ (xs : List PyData) (k : Int), (enumD k xs).length = xs.length
  | [], _ => rfl
  | a :: r, k => by rw [enumD, List.length_cons, enumD_len r, List.length_cons]
theorem it_enum {K : PySem.W.Frag} {F : Hp} {a : Addr} {vs : List V} {xs : List PyData} (h : F a = some (.lst vs)) (q : DqAll K F vs xs) : ItOk K F (Ite K a) (enumD 0 xs) := fun H e => by
  refine ⟨fun i x hx => ?_, ⟨vs, SqL.of (e _ _ h), by rw [enumD_len, dpa_len q]; exact Nat.le_refl _⟩⟩
  obtain ⟨y, hy, rfl⟩ := enumD_get xs 0 i x hx
  obtain ⟨v, h1, h2⟩ := dpa_get q hy
  refine ⟨⟨vs, v, SqL.of (e _ _ h), h1⟩, fun w H' yy => ?_⟩
  obtain ⟨T, z, rfl, nT, rfl, y2⟩ := yy
  have := y2 vs (SqL.of (e _ _ h))
  rw [h1] at this
  cases this
  rw [show (0 : Int) + (i : Int) = ((i : Nat) : Int) by omega]
  exact .tup nT (.cons (.int _) (.cons h2 .nil))
theorem it_enumT {K : PySem.W.Frag} {F : Hp} {a : Addr} {vs : List V} {xs : List PyData} (h : SqT K F a vs) (q : DqAll K F vs xs) : ItOk K F (ItE K a) (enumD 0 xs) := fun H e => by
  have hT := sqT_mono e h
  refine ⟨fun i x hx => ?_, ⟨vs, hT, by rw [enumD_len, dpa_len q]; exact Nat.le_refl _⟩⟩
  obtain ⟨y, hy, rfl⟩ := enumD_get xs 0 i x hx
  obtain ⟨v, h1, h2⟩ := dpa_get q hy
  refine ⟨⟨vs, v, hT, h1⟩, fun w H' yy => ?_⟩
  obtain ⟨T, z, rfl, nT, rfl, y2⟩ := yy
  have := y2 vs hT
  rw [h1] at this
  cases this
  rw [show (0 : Int) + (i : Int) = ((i : Nat) : Int) by omega]
  exact .tup nT (.cons (.int _) (.cons h2 .nil))
theorem stepD_get : ∀ (n : Nat) (lo c : Int) (i : Nat) (x : PyData), (stepD lo c n)[i]? = some x → i < n ∧ x = .int (lo + (i : Nat) * c)
  | 0, lo, c, i, x, h => by simp [stepD] at h
  | n + 1, lo, c, 0, x, h => by
    simp [stepD] at h
    subst h
    simp
  | n + 1, lo, c, i + 1, x, h => by
    obtain ⟨h1, h2⟩ := stepD_get n (lo + c) c i x (by simpa [stepD] using h)
    refine ⟨by omega, ?_⟩
    rw [h2]
    congr 1
    rw [show ((i + 1 : Nat) : Int) = (i : Int) + 1 by omega, Int.add_mul, Int.one_mul]
    omega
theorem stepD_len : ∀ (n : Nat) (lo c : Int), (stepD lo c n).length = n
  | 0, _, _ => rfl
  | n + 1, lo, c => by rw [stepD, List.length_cons, stepD_len n]
theorem it_rngC {K : PySem.W.Frag} {F : Hp} (lo c : Int) (n : Nat) : ItOk K F (Itc lo c n) (stepD lo c n) := fun H e => by
  refine ⟨fun i x hx => ?_, by rw [stepD_len]; exact Nat.le_refl _⟩
  obtain ⟨h1, rfl⟩ := stepD_get n lo c i x hx
  refine ⟨h1, fun w H' y => ?_⟩
  obtain ⟨rfl, rfl⟩ := y
  exact .old (.int _)
theorem zipD_get : ∀ (xs ys : List PyData) (i : Nat) (x : PyData), (zipD xs ys)[i]? = some x → ∃ y z, xs[i]? = some y ∧ ys[i]? = some z ∧ x = .tuple [y, z]
  | [], _, i, x, h => by simp [zipD] at h
  | _ :: _, [], i, x, h => by simp [zipD] at h
  | a :: r, b :: q, 0, x, h => by
    simp [zipD] at h
    subst h
    exact ⟨a, b, rfl, rfl, rfl⟩
  | a :: r, b :: q, i + 1, x, h => by
    obtain ⟨y, z, h1, h2, h3⟩ := zipD_get r q i x (by simpa [zipD] using h)
    exact ⟨y, z, by simpa using h1, by simpa using h2, h3⟩
theorem zipD_len : ∀ (xs ys : List PyData), xs.length ≤ (zipD xs ys).length ∨ ys.length ≤ (zipD xs ys).length
  | [], _ => .inl (Nat.zero_le _)
  | _ :: _, [] => .inr (Nat.zero_le _)
  | a :: r, b :: q => by
    rw [zipD, List.length_cons, List.length_cons, List.length_cons]
    rcases zipD_len r q with h | h
    · exact .inl (by omega)
    · exact .inr (by omega)
theorem it_zipL {K : PySem.W.Frag} {F : Hp} {a b : Addr} {vs us : List V} {xs ys : List PyData} (h : F a = some (.lst vs)) (q : DqAll K F vs xs) (h' : F b = some (.lst us)) (q' : DqAll K F us ys) : ItOk K F (Itz K a b) (zipD xs ys) := fun H e => by
  have e1 : SqL K H a vs := SqL.of (e _ _ h)
  have e2 : SqL K H b us := SqL.of (e _ _ h')
  refine ⟨fun i x hx => ?_, ⟨vs, us, e1, e2, by rw [dpa_len q, dpa_len q']; exact zipD_len xs ys⟩⟩
  obtain ⟨y, z, hy, hz, rfl⟩ := zipD_get xs ys i x hx
  obtain ⟨v, h1, h2⟩ := dpa_get q hy
  obtain ⟨u, h3, h4⟩ := dpa_get q' hz
  refine ⟨⟨vs, us, v, u, e1, e2, h1, h3⟩, fun w H' yy => ?_⟩
  obtain ⟨T, x1, x2, rfl, nT, rfl, y1, y2⟩ := yy
  have k1 := y1 vs e1
  have k2 := y2 us e2
  rw [h1] at k1
  rw [h3] at k2
  cases k1
  cases k2
  exact .tup nT (.cons h2 (.cons h4 .nil))
theorem it_zipT {K : PySem.W.Frag} {F : Hp} {a b : Addr} {vs us : List V} {xs ys : List PyData} (h : SqT K F a vs) (q : DqAll K F vs xs) (h' : SqT K F b us) (q' : DqAll K F us ys) : ItOk K F (RZ.ItzT K a b) (zipD xs ys) := fun H e => by
  have e1 := sqT_mono e h
  have e2 := sqT_mono e h'
  refine ⟨fun i x hx => ?_, ⟨vs, us, e1, e2, by rw [dpa_len q, dpa_len q']; exact zipD_len xs ys⟩⟩
  obtain ⟨y, z, hy, hz, rfl⟩ := zipD_get xs ys i x hx
  obtain ⟨v, h1, h2⟩ := dpa_get q hy
  obtain ⟨u, h3, h4⟩ := dpa_get q' hz
  refine ⟨⟨vs, us, v, u, e1, e2, h1, h3⟩, fun w H' yy => ?_⟩
  obtain ⟨T, x1, x2, rfl, nT, rfl, y1, y2⟩ := yy
  have k1 := y1 vs e1
  have k2 := y2 us e2
  rw [h1] at k1
  rw [h3] at k2
  cases k1
  cases k2
  exact .tup nT (.cons h2 (.cons h4 .nil))
/-- how an iterable's value is frozen, ahead of its walk -/
theorem snd_seq (O : XOk g X sc) {tg : Expr} {a : Ex} {A : Expr} (ha : PE X A (tE g a)) : PI X tg A (tI g (.seq a)) := by
  refine ⟨fun pins st σ H P I ⟨E, F, ι, s, S0, xs, s', h1, k⟩ => ?_⟩
  simp only [evi] at h1
  replace h1 := bd_some h1
  obtain ⟨r1, s1, e1, h1⟩ := h1
  replace h1 := bd_some h1
  obtain ⟨w, s2, e2, h1⟩ := h1
  obtain ⟨e3, e9⟩ := on_some e2
  subst e9
  obtain ⟨h2, e9⟩ := on_some h1
  subst e9
  split at h2
  · cases h2
    refine (pi_list ha).run pins st σ H P I ?_
    refine tE.go S0 e1 fun v F1 ι1 H1 S1 st1 rr1 f1 => ?_
    obtain ⟨F2, S2, st2, q2⟩ := S1.froze rr1 f1 e3
    cases q2 with
    | d q => cases q with | lst q r => exact ⟨_, rfl, ⟨_, SqL.of (S2.sub _ _ q)⟩, by rw [O.eK]; exact k _ F2 ι1 H1 S2 (st1.trans st2) (it_list q r)⟩
  · cases h2
    refine (pi_tup ha).run pins st σ H P I ?_
    refine tE.go S0 e1 fun v F1 ι1 H1 S1 st1 rr1 f1 => ?_
    obtain ⟨F2, S2, st2, q2⟩ := S1.froze rr1 f1 e3
    cases q2 with
    | d q => cases q with | tup q r => exact ⟨_, rfl, ⟨_, by rw [O.eK]; exact sqT_mono S2.sub q⟩, by rw [O.eK]; exact k _ F2 ι1 H1 S2 (st1.trans st2) (it_tup q r)⟩
  · cases h2
theorem snd_rng1 (O : XOk g X sc) {tg : Expr} {a : Ex} {A : Expr} {p pos : Pos} (h1 : okG sc "range" = true) (ha : PE X A (tE g a)) (hs : notStar A = true) : PI X tg (.Call (.Name "range" p) [A] [] pos) (tI g (.rng1 a)) := by
  obtain ⟨g1, g2⟩ := okG_gl O h1
  refine PI.weak (pi_range1 g1 (free_of O (by decide +kernel)) (pa1 ha hs) (by rw [star_of hs]; rfl)) fun σ H P ⟨E, F, ι, s, S0, xs, s', h1, k⟩ => ?_
  simp only [evi] at h1
  replace h1 := bd_some h1
  obtain ⟨r1, s1, e1, h1⟩ := h1
  obtain ⟨h2, e9⟩ := on_some h1
  subst e9
  rw [Option.bind_eq_some_iff] at h2
  obtain ⟨j, d1, h2⟩ := h2
  obtain ⟨c, h2⟩ := ite_some h2
  subst h2
  refine tE.go S0 e1 fun v F1 ι1 H1 S1 st1 rr1 f1 => ⟨j, by rw [(S1.rv rr1 (asI_dat d1)).int], by omega, by omega, k _ F1 ι1 H1 S1 st1 (it_rng 0 _)⟩
theorem snd_rng2 (O : XOk g X sc) {tg : Expr} {a b : Ex} {A B : Expr} {p pos : Pos} (h1 : okG sc "range" = true) (ha : PE X A (tE g a)) (hb : PE X B (tE g b)) (hs : notStar A = true) (hs2 : notStar B = true) : PI X tg (.Call (.Name "range" p) [A, B] [] pos) (tI g (.rng2 a b)) := by
  obtain ⟨g1, g2⟩ := okG_gl O h1
  refine PI.weak (pi_range2 g1 (free_of O (by decide +kernel)) (pa2 ha hb hs hs2) (by rw [star_of hs, star_of hs2]; rfl) (by rw [star_of hs2]; rfl)) fun σ H P ⟨E, F, ι, s, S0, xs, s', h1, k⟩ => ?_
  simp only [evi] at h1
  replace h1 := bd_some h1
  obtain ⟨r1, s1, e1, h1⟩ := h1
  replace h1 := bd_some h1
  obtain ⟨i, s2, e2, h1⟩ := h1
  obtain ⟨e3, e9⟩ := on_some e2
  subst e9
  replace h1 := bd_some h1
  obtain ⟨r2, s3, e4, h1⟩ := h1
  obtain ⟨h2, e9⟩ := on_some h1
  subst e9
  rw [Option.bind_eq_some_iff] at h2
  obtain ⟨j, d1, h2⟩ := h2
  obtain ⟨c, h2⟩ := ite_some h2
  subst h2
  refine tE.go S0 e1 fun v F1 ι1 H1 S1 st1 rr1 f1 => ?_
  rw [(S1.rv rr1 (asI_dat e3)).int]
  refine tE.go S1 e4 fun u F2 ι2 H2 S2 st2 rr2 f2 => ⟨i, j, by rw [(S2.rv rr2 (asI_dat d1)).int], ⟨by omega, by omega, by omega, by omega⟩, k _ F2 ι2 H2 S2 (st1.trans st2) (it_rng i _)⟩
theorem rgc_of {i j k : Int} (h : 1 ≤ k ∧ k ≤ 1000 ∧ 0 ≤ i ∧ i ≤ 1000000 ∧ 0 ≤ j ∧ j ≤ 1000000) : RgC i j k ((j - i + k - 1) / k).toNat := by
  have hs : Builtin.Range.rangeSize i j k = (((j - i + k - 1) / k).toNat : Int) := by
    unfold Builtin.Range.rangeSize
    rw [if_pos (by omega)]
    split
    · have e : j - i + k - 1 = (j - i - 1) + 1 * k := by omega
      rw [e, Int.add_mul_ediv_right _ _ (by omega)]
      have := Int.ediv_nonneg (a := j - i - 1) (b := k) (by omega) (by omega)
      simp only [Int.ofNat_toNat]
      omega
    · have : (j - i + k - 1) / k ≤ 0 := by
        have : (j - i + k - 1) / k < 1 := Int.ediv_lt_of_lt_mul (by omega) (by omega)
        omega
      simp only [Int.ofNat_toNat]
      omega
  have hb : (j - i + k - 1) / k ≤ 1001000 := by
    have := Int.ediv_le_ediv (c := k) (by omega) (show j - i + k - 1 ≤ 1001000 by omega)
    have h2 : (1001000 : Int) / k ≤ 1001000 := Int.ediv_le_self _ (by omega)
    omega
  refine ⟨by omega, by omega, ?_, hs⟩
  unfold Builtin.Range.small
  rw [hs, if_pos (by omega : k > 0)]
  simp only [Builtin.Range.rangeFitsLong, Bool.and_eq_true, Bool.or_eq_true, decide_eq_true_eq, beq_iff_eq]
  omega
theorem pa3 {A B C : Expr} {t u v : TE} (ha : PE X A t) (hb : PE X B u) (hc : PE X C v) (hn : notStar A = true) (hm : notStar B = true) (ho : notStar C = true) : PA X [A, B, C] (tCons t (tCons u (tCons v tNil))) := pa_cons ha (pa2 hb hc hm ho) (star_of hn)
theorem snd_rng3 (O : XOk g X sc) {tg : Expr} {a b d : Ex} {A B D : Expr} {p pos : Pos} (h1 : okG sc "range" = true) (ha : PE X A (tE g a)) (hb : PE X B (tE g b)) (hd : PE X D (tE g d)) (hs : notStar A = true) (hs2 : notStar B = true) (hs3 : notStar D = true) : PI X tg (.Call (.Name "range" p) [A, B, D] [] pos) (tI g (.rng3 a b d)) := by
  obtain ⟨g1, g2⟩ := okG_gl O h1
  refine PI.weak (pi_range3 g1 (free_of O (by decide +kernel)) (pa3 ha hb hd hs hs2 hs3) (by rw [star_of hs, star_of hs2]) (by rw [star_of hs2, star_of hs3]; rfl)) fun σ H P ⟨E, F, ι, s, S0, xs, s', h1, k⟩ => ?_
  simp only [evi] at h1
  replace h1 := bd_some h1
  obtain ⟨r1, s1, e1, h1⟩ := h1
  replace h1 := bd_some h1
  obtain ⟨i, s2, e2, h1⟩ := h1
  obtain ⟨e3, e9⟩ := on_some e2
  subst e9
  replace h1 := bd_some h1
  obtain ⟨r2, s3, e4, h1⟩ := h1
  replace h1 := bd_some h1
  obtain ⟨j, s4, e5, h1⟩ := h1
  obtain ⟨e6, e9⟩ := on_some e5
  subst e9
  replace h1 := bd_some h1
  obtain ⟨r3, s5, e7, h1⟩ := h1
  obtain ⟨h2, e9⟩ := on_some h1
  subst e9
  rw [Option.bind_eq_some_iff] at h2
  obtain ⟨m, d1, h2⟩ := h2
  obtain ⟨c, h2⟩ := ite_some h2
  subst h2
  refine tE.go S0 e1 fun v F1 ι1 H1 S1 st1 rr1 f1 => ?_
  rw [(S1.rv rr1 (asI_dat e3)).int]
  refine tE.go S1 e4 fun u F2 ι2 H2 S2 st2 rr2 f2 => ?_
  rw [(S2.rv rr2 (asI_dat e6)).int]
  refine tE.go S2 e7 fun w F3 ι3 H3 S3 st3 rr3 f3 => ⟨i, j, m, _, by rw [(S3.rv rr3 (asI_dat d1)).int], rgc_of c, k _ F3 ι3 H3 S3 ((st1.trans st2).trans st3) (it_rngC i m _)⟩
theorem snd_enum (O : XOk g X sc) {es : List Expr} {kk : Nat} {tpos : Pos} {a : Ex} {A : Expr} {p pos : Pos} (h1 : okG sc "enumerate" = true) (ha : PE X A (tE g a)) (hs : notStar A = true) : PI X (.Tuple es kk tpos) (.Call (.Name "enumerate" p) [A] [] pos) (tI g (.enum a)) := by
  obtain ⟨g1, g2⟩ := okG_gl O h1
  refine PI.weak (pi_enumT g1 (free_of O (by decide +kernel)) (pa1 ha hs) (by rw [star_of hs]; rfl)) fun σ H P ⟨E, F, ι, s, S0, xs, s', h1, k⟩ => ?_
  simp only [evi] at h1
  replace h1 := bd_some h1
  obtain ⟨r1, s1, e1, h1⟩ := h1
  replace h1 := bd_some h1
  obtain ⟨w, s2, e2, h1⟩ := h1
  obtain ⟨e3, e9⟩ := on_some e2
  subst e9
  obtain ⟨h2, e9⟩ := on_some h1
  subst e9
  split at h2
  · cases h2
    refine tE.go S0 e1 fun v F1 ι1 H1 S1 st1 rr1 f1 => ?_
    obtain ⟨F2, S2, st2, q2⟩ := S1.froze rr1 f1 e3
    cases q2 with
    | d q => cases q with | lst q r => exact ⟨_, _, rfl, .inl ⟨SqL.of (S2.sub _ _ q), by rw [O.eK]; exact k _ F2 ι1 H1 S2 (st1.trans st2) (it_enum q r)⟩⟩
  · cases h2
    refine tE.go S0 e1 fun v F1 ι1 H1 S1 st1 rr1 f1 => ?_
    obtain ⟨F2, S2, st2, q2⟩ := S1.froze rr1 f1 e3
    cases q2 with
    | d q => cases q with | tup q r => exact ⟨_, _, rfl, .inr ⟨by rw [O.eK]; exact sqT_mono S2.sub q, by rw [O.eK]; exact k _ F2 ι1 H1 S2 (st1.trans st2) (it_enumT q r)⟩⟩
  · cases h2
theorem snd_zip (O : XOk g X sc) {es : List Expr} {kk : Nat} {tpos : Pos} {a b : Ex} {A B : Expr} {p pos : Pos} (h1 : okG sc "zip" = true) (ha : PE X A (tE g a)) (hb : PE X B (tE g b)) (hs : notStar A = true) (hs2 : notStar B = true) :
    PI X (.Tuple es kk tpos) (.Call (.Name "zip" p) [A, B] [] pos) (tI g (.zip a b)) := by
  obtain ⟨g1, g2⟩ := okG_gl O h1
  refine PI.weak (RZ.pi_zipA g1 (free_of O (by decide +kernel)) (pa2 ha hb hs hs2) (star_of hs) (plain1 hs2)) fun σ H P ⟨E, F, ι, s, S0, xs, s', h1, k⟩ => ?_
  simp only [evi] at h1
  replace h1 := bd_some h1
  obtain ⟨r1, s1, e1, h1⟩ := h1
  replace h1 := bd_some h1
  obtain ⟨w, s2, e2, h1⟩ := h1
  obtain ⟨e3, e9⟩ := on_some e2
  subst e9
  replace h1 := bd_some h1
  obtain ⟨r2, s3, e4, h1⟩ := h1
  replace h1 := bd_some h1
  obtain ⟨u, s4, e5, h1⟩ := h1
  obtain ⟨e6, e9⟩ := on_some e5
  subst e9
  obtain ⟨h2, e9⟩ := on_some h1
  subst e9
  refine tE.go S0 e1 fun v F1 ι1 H1 S1 st1 rr1 f1 => ?_
  obtain ⟨F2, S2, st2, q2⟩ := S1.froze rr1 f1 e3
  refine tE.go S2 e4 fun v' F3 ι3 H3 S3 st3 rr3 f3 => ?_
  obtain ⟨F4, S4, st4, q4⟩ := S3.froze rr3 f3 e6
  have q2' := q2.mono (st3.trans st4)
  split at h2
  · cases h2
    cases q2' with
    | d q => cases q with
      | lst q r => cases q4 with
        | d q' => cases q' with
          | lst q' r' => exact ⟨_, _, _, _, rfl, .inl ⟨SqL.of (S4.sub _ _ q), SqL.of (S4.sub _ _ q'), by rw [O.eK]; exact k _ F4 ι3 H3 S4 (((st1.trans st2).trans st3).trans st4) (it_zipL q r q' r')⟩⟩
  · cases h2
    cases q2' with
    | d q => cases q with
      | tup q r => cases q4 with
        | d q' => cases q' with
          | tup q' r' => exact ⟨_, _, _, _, rfl, .inr ⟨by rw [O.eK]; exact sqT_mono S4.sub q, by rw [O.eK]; exact sqT_mono S4.sub q', by rw [O.eK]; exact k _ F4 ι3 H3 S4 (((st1.trans st2).trans st3).trans st4) (it_zipT q r q' r')⟩⟩
  · cases h2
end
end Xp

/-! E10: comprehensions; every expression. -/
namespace Xp
open PySem PySem.Spec PyProof.Rows L2
section
variable {g : Gd} {X : Cx} {sc : Scope}

theorem wipeR_get : ∀ (vs : List Nat) (l : List (Option R)) (j : Nat), (wipe l vs)[j]? = if j ∈ vs then (l[j]?).map (fun _ => none) else l[j]?
  | [], l, j => by simp [wipe]
  | v :: vs, l, j => by
    unfold wipe
    rw [List.getElem?_set, wipeR_get vs l j]
    have hlen : ∀ vs : List Nat, (wipe l vs).length = l.length := fun vs => by
      induction vs with
      | nil => rfl
      | cons a b ih => unfold wipe; rw [List.length_set, ih]
    by_cases e : v = j
    · subst e
      rw [if_pos rfl, if_pos List.mem_cons_self, hlen]
      by_cases c : v < l.length
      · rw [if_pos c, List.getElem?_eq_getElem c]
        rfl
      · rw [if_neg c, List.getElem?_eq_none (by omega)]
        rfl
    · rw [if_neg e]
      have : (j ∈ v :: vs) = (j ∈ vs) := by simp [Ne.symm e]
      simp only [this]
theorem wipeR_len (l : List (Option R)) (vs : List Nat) : (wipe l vs).length = l.length := by
  induction vs with
  | nil => rfl
  | cons a b ih => unfold wipe; rw [List.length_set, ih]
theorem back_get : ∀ (vs : List Nat) (l old : List (Option R)) (j : Nat), l.length = old.length → (back l old vs)[j]? = if j ∈ vs then old[j]? else l[j]?
  | [], l, old, j, h => by simp [back]
  | v :: vs, l, old, j, h => by
    unfold back
    rw [List.getElem?_set, back_get vs l old j h]
    have hlen : ∀ vs : List Nat, (back l old vs).length = l.length := fun vs => by
      induction vs with
      | nil => rfl
      | cons a b ih => unfold back; rw [List.length_set, ih]
    by_cases e : v = j
    · subst e
      rw [if_pos rfl, if_pos List.mem_cons_self, hlen]
      by_cases c : v < l.length
      · rw [if_pos c, List.getD_eq_getElem?_getD, List.getElem?_eq_getElem (by omega)]; rfl
      · rw [if_neg c, List.getElem?_eq_none (by omega)]
    · rw [if_neg e]
      have : (j ∈ v :: vs) = (j ∈ vs) := by simp [Ne.symm e]
      simp only [this]
theorem back_len (l old : List (Option R)) (vs : List Nat) : (back l old vs).length = l.length := by
  induction vs with
  | nil => rfl
  | cons a b ih => unfold back; rw [List.length_set, ih]
theorem Stt.wiped {K : PySem.W.Frag} {fa : Nat → Option Addr} {E : Ent} {F H : Hp} {ι : List Addr} {s : S} {σ : L2.St} (S0 : Stt K fa E F ι s σ H) (vs : List Nat) : Stt K fa E F ι ⟨wipe s.sl vs, s.st⟩ (L2.wipe σ vs) H := by
  have ne : ∀ j (r : R), (wipe s.sl vs)[j]? = some (some r) → j ∉ vs ∧ s.sl[j]? = some (some r) := fun j r hj => by
    rw [wipeR_get] at hj
    by_cases c : j ∈ vs
    · rw [if_pos c] at hj
      cases h : s.sl[j]? <;> rw [h] at hj <;> cases hj
    · rw [if_neg c] at hj
      exact ⟨c, hj⟩
  have sg : ∀ j, j ∉ vs → (L2.wipe σ vs)[j]? = σ[j]? := fun j c => by rw [wipe_get, if_neg c]
  refine { sub := S0.sub, step := S0.step, nofz := S0.nofz, len := by rw [L2.wipe_length, wipeR_len]; exact S0.len, slot := fun j r hj => ?_, new := fun j ys b o' hb => ?_, dist := fun j l ys zs hjl o1 o2 => ?_, st := S0.st, nfz := S0.nfz, stl := S0.stl, nd := S0.nd, res := fun b hb => ?_ }
  · obtain ⟨n1, n2⟩ := ne j r hj
    obtain ⟨v, q1, q2⟩ := S0.slot j r n2
    exact ⟨v, by rw [sg j n1]; exact q1, q2⟩
  · obtain ⟨n1, n2⟩ := ne j _ o'
    rw [sg j n1] at hb
    exact S0.new j ys b n2 hb
  · obtain ⟨n1, n2⟩ := ne j _ o1
    obtain ⟨n3, n4⟩ := ne l _ o2
    rw [sg j n1, sg l n3]
    exact S0.dist j l ys zs hjl n2 n4
  · obtain ⟨h1, h2, h3, h4⟩ := S0.res b hb
    refine ⟨h1, h2, h3, fun j ys o' => ?_⟩
    obtain ⟨n1, n2⟩ := ne j _ o'
    rw [sg j n1]
    exact h4 j ys n2
/-- behind a comprehension the block's own slots are again what they were -/
theorem Stt.backed {K : PySem.W.Frag} {fa : Nat → Option Addr} {E : Ent} {F F1 H H1 : Hp} {ι ι1 : List Addr} {s s1 : S} {σ : L2.St} {vs : List Nat} (S0 : Stt K fa E F ι ⟨wipe s.sl vs, s.st⟩ (L2.wipe σ vs) H) (S1 : Stt K fa E F1 ι1 s1 σ H1)
    (hs : Stp F1 ι1 H1 F ι H) (hn : noOwn s1.sl vs = true) (hl : s.sl.length = s1.sl.length) : Stt K fa E F ι ⟨back s.sl s1.sl vs, s.st⟩ σ H := by
  have no : ∀ j ∈ vs, ∀ ys, s1.sl[j]? ≠ some (some (.own ys)) := fun j hj ys z => by
    unfold noOwn at hn
    have := List.all_eq_true.mp hn j hj
    rw [z] at this
    cases this
  have ne : ∀ j (r : R), (back s.sl s1.sl vs)[j]? = some (some r) → (j ∈ vs ∧ s1.sl[j]? = some (some r)) ∨ (j ∉ vs ∧ (wipe s.sl vs)[j]? = some (some r)) := fun j r hj => by
    rw [back_get vs _ _ j hl] at hj
    by_cases c : j ∈ vs
    · rw [if_pos c] at hj
      exact .inl ⟨c, hj⟩
    · rw [if_neg c] at hj
      exact .inr ⟨c, by rw [wipeR_get, if_neg c]; exact hj⟩
  have neo : ∀ j ys, OwnAt ⟨back s.sl s1.sl vs, s.st⟩ j ys → j ∉ vs ∧ OwnAt ⟨wipe s.sl vs, s.st⟩ j ys := fun j ys o' => by
    rcases ne j _ o' with ⟨c, z⟩ | z
    · exact absurd z (no j c ys)
    · exact z
  have sg : ∀ j, j ∉ vs → (L2.wipe σ vs)[j]? = σ[j]? := fun j c => by rw [wipe_get, if_neg c]
  refine { sub := S0.sub, step := S0.step, nofz := S0.nofz, len := by rw [back_len, hl]; exact S1.len, slot := fun j r hj => ?_, new := fun j ys b o' hb => ?_, dist := fun j l ys zs hjl o1 o2 => ?_, st := S0.st, nfz := S0.nfz, stl := S0.stl, nd := S0.nd, res := fun b hb => ?_ }
  · rcases ne j r hj with ⟨c, z⟩ | ⟨c, z⟩
    · obtain ⟨v, q1, q2, q3⟩ := S1.slot j r z
      refine ⟨v, q1, ?_, q3⟩
      cases q2 with
      | w q => exact .w (q.mono hs)
      | own o => exact absurd z (no j c _)
      | bor o => exact absurd rfl (q3 _)
    · obtain ⟨v, q1, q2⟩ := S0.slot j r z
      exact ⟨v, by rw [← sg j c]; exact q1, q2⟩
  · obtain ⟨n1, n2⟩ := neo j _ o'
    rw [← sg j n1] at hb
    exact S0.new j ys b n2 hb
  · obtain ⟨n1, n2⟩ := neo j _ o1
    obtain ⟨n3, n4⟩ := neo l _ o2
    rw [← sg j n1, ← sg l n3]
    exact S0.dist j l ys zs hjl n2 n4
  · obtain ⟨h1, h2, h3, h4⟩ := S0.res b hb
    refine ⟨h1, h2, h3, fun j ys o' => ?_⟩
    obtain ⟨n1, n2⟩ := neo j _ o'
    rw [← sg j n1]
    exact h4 j ys n2
/-- one address more is set aside -/
def Ent.set (E : Ent) (D : Addr) : Ent := ⟨E.F, E.ι, E.H, fun b => E.res b ∨ b = D⟩
theorem Stt.aside {K : PySem.W.Frag} {fa : Nat → Option Addr} {E : Ent} {F H : Hp} {ι : List Addr} {s : S} {σ : L2.St} (S0 : Stt K fa E F ι s σ H) {D : Addr} {o : HO} (h : H D = none) : Stt K fa (E.set D) F ι s σ (upd H D o) := by
  obtain ⟨a1, a2, a3, a4, a5⟩ := S0.fresh h
  have S1 := S0.lay (o := o) h
  refine { sub := S1.sub, step := S1.step, nofz := S1.nofz, len := S1.len, slot := S1.slot, new := S1.new, dist := S1.dist, st := S1.st, nfz := S1.nfz, stl := S1.stl, nd := S1.nd, res := fun b hb => ?_ }
  rcases hb with hb | hb
  · exact S1.res b hb
  · subst hb
    exact ⟨a2, by rw [upd_same]; exact (fun z => by cases z), a3, a4⟩
theorem Stt.unaside {K : PySem.W.Frag} {fa : Nat → Option Addr} {E : Ent} {F H : Hp} {ι : List Addr} {s : S} {σ : L2.St} {D : Addr} (S1 : Stt K fa (E.set D) F ι s σ H) : Stt K fa E F ι s σ H :=
  { sub := S1.sub, step := S1.step, nofz := S1.nofz, len := S1.len, slot := S1.slot, new := S1.new, dist := S1.dist, st := S1.st, nfz := S1.nfz, stl := S1.stl, nd := S1.nd, res := fun b hb => S1.res b (.inl hb) }
/-- what is set aside is changed -/
theorem Stt.asideUpd {K : PySem.W.Frag} {fa : Nat → Option Addr} {E : Ent} {F H : Hp} {ι : List Addr} {s : S} {σ : L2.St} {D : Addr} {o : HO} (S1 : Stt K fa (E.set D) F ι s σ H) (h : E.H D = none) : Stt K fa (E.set D) F ι s σ (upd H D o) := by
  obtain ⟨h1, h2, h3, h4⟩ := S1.res D (.inr rfl)
  exact S1.side h h1 h3 h4
theorem Stp.upd {F H F' H' : Hp} {ι ι' : List Addr} {D : Addr} {o : HO} (x : Stp F ι H F' ι' H') (h : H D = none) : Stp F ι H F' ι' (upd H' D o) :=
  ⟨x.fz, x.pre, fun b u q n => by rw [upd_ne (ne_of_none q h)]; exact x.ext b u q n, fun b q => by
    by_cases e : b = D
    · rw [e]; exact h
    · rw [upd_ne e] at q
      exact x.dom b q, fun _ _ _ _ => trivial⟩
theorem wipe_wipe (σ : L2.St) (own : List Nat) : L2.wipe (L2.wipe σ own) own = L2.wipe σ own := by
  apply List.ext_getElem?
  intro j
  rw [wipe_get, wipe_get]
  by_cases cj : j ∈ own
  · rw [if_pos cj, if_pos cj, Option.map_map]
    rfl
  · rw [if_neg cj, if_neg cj]
theorem Mk.mono {K : PySem.W.Frag} {F F' H H' : Hp} {r : R} {v : V} (e : Same F F') (m : Mk K F H r v H') : Mk K F' H r v H' := by
  cases m with
  | old q => exact .old (dp_mono e _ _ q)
  | tup h q => exact .tup h (dpa_mono e _ _ q)
  | lst h q => exact .lst h (dpa_mono e _ _ q)
theorem lc_r (O : XOk g X sc) {own : List Nat} {tg : Tg} {it : It} {c e : Ex} (ht : ∀ i ∈ tgv tg, i ∈ own) : ∀ σ H Q, tE g (.lc own tg it c e) σ H Q → tLc (tI g it) (gT g tg) (tT g c) (tE g e) own σ H Q := by
  intro σ H Q ⟨E, F, ι, s, S0, r, s', h1, k⟩
  simp only [ev] at h1
  replace h1 := bd_some h1
  obtain ⟨xs, s0, e1, h1⟩ := h1
  replace h1 := bd_some h1
  obtain ⟨ys, s1, e2, h1⟩ := h1
  obtain ⟨e3, e9⟩ := on_some e2
  subst e9
  obtain ⟨hno, e4⟩ : noOwn s1.sl own = true ∧ fits xs = some ys := by
    by_cases q : noOwn s1.sl own = true
    · rw [if_pos q] at e3; exact ⟨q, e3⟩
    · rw [if_neg q] at e3; cases e3
  unfold fits at e4
  obtain ⟨hlen, rfl⟩ := ite_some e4
  replace h1 := bd_some h1
  obtain ⟨rs, s7, e7, h1⟩ := h1
  cases h1
  generalize hf : (fun (x : PyData) (s2 : S) => bd (on (bindT tg x (wipe s2.sl own)) s2) fun l s3 => bd (ev g.cal g.G c ⟨l, s3.st⟩) fun k s4 => bd (on (asB s4.st k) s4) fun k s5 =>
        if k = true then bd (ev g.cal g.G e s5) fun y s6 => on (match y.fz with | some (.d d) => some (some d) | _ => none) s6 else some (none, s5)) = f at e7
  refine ⟨E, F, ι, s, S0, xs, s1, e1, fun J F1 ι1 H1 S1 st1 iok D hD => ?_⟩
  obtain ⟨a1, a2, a3, a4, a5⟩ := S1.fresh hD
  refine ⟨fun i m H => m = xs.length - i ∧ i ≤ xs.length ∧ ∃ F ι s rest acc vs, Stt g.K g.fa (E.set D) F ι ⟨wipe s.sl own, s.st⟩ (L2.wipe σ own) H ∧ Stp F1 ι1 H1 F ι H ∧ s.sl.length = s1.sl.length ∧ lcL f (xs.drop i) s = some (rest, s7) ∧ rs = acc ++ rest ∧
      H D = some (.lst vs) ∧ DqAll g.K F vs acc ∧ acc.length ≤ i, ⟨xs.length, by simp, Nat.zero_le _, F1, ι1, s1, rs, [], [], (S1.wiped own).aside hD, Stp.lay hD, rfl, by rw [List.drop_zero]; exact e7, rfl, upd_same, .nil, Nat.zero_le _⟩, ?_⟩
  rintro i m H2 ⟨rfl, hi, F2, ι2, s2, rest, acc, vs, S2, st2, hl2, e8, erest, hHD, hacc, hal⟩
  by_cases hlt : i < xs.length
  · -- a turn
    have hx : xs[i]? = some xs[i] := List.getElem?_eq_getElem hlt
    rw [List.drop_eq_getElem_cons hlt] at e8
    simp only [lcL] at e8
    replace e8 := bd_some e8
    obtain ⟨o, s3, e9, e8⟩ := e8
    replace e8 := bd_some e8
    obtain ⟨rest2, s4, e10, e8⟩ := e8
    cases e8
    obtain ⟨go, yl⟩ := (iok H2 (st2.fz.trans S2.sub)).1 i _ hx
    refine .inr ⟨go, fun H' => ∃ F ι s rest acc vs, Stt g.K g.fa (E.set D) F ι ⟨wipe s.sl own, s.st⟩ (L2.wipe σ own) H' ∧ Stp F1 ι1 H1 F ι H' ∧ s.sl.length = s1.sl.length ∧ lcL f (xs.drop (i + 1)) s = some (rest, s7) ∧ rs = acc ++ rest ∧
      H' D = some (.lst vs) ∧ DqAll g.K F vs acc ∧ acc.length ≤ i + 1, fun H' q => ⟨xs.length - (i + 1), by omega, rfl, hlt, q⟩, fun x H' y => ?_⟩
    obtain ⟨F3, S3, st3, rr3, _⟩ := S2.made (Mk.mono st2.fz (yl x H' y))
    rw [← hf] at e9
    obtain ⟨l, s5, e11, g2⟩ := bd_some e9
    obtain ⟨e12, e99⟩ := on_some e11
    cases e99
    obtain ⟨kr, s6, e13, g3⟩ := bd_some g2
    obtain ⟨kb, s8, e14, g4⟩ := bd_some g3
    obtain ⟨e15, e99⟩ := on_some e14
    cases e99
    cases rr3 with
    | w q =>
    cases q with
    | d q =>
    have hDn : ∀ {F' H' : Hp} {ι' : List Addr} {s : S} {σ : L2.St}, Stt g.K g.fa (E.set D) F' ι' s σ H' → D ∉ ι' := fun S' => (S'.res D (.inr rfl)).2.2.1
    have keepD : ∀ {Fa Ha Fb Hb : Hp} {ιa ιb : List Addr} {sa : S} {σa : L2.St} {o : HO}, Stt g.K g.fa (E.set D) Fa ιa sa σa Ha → Stp Fa ιa Ha Fb ιb Hb → Ha D = some o → Hb D = some o := fun Sa hs hd => hs.ext _ _ hd (hDn Sa)
    have hHD3 := keepD S2 st3 hHD
    have hlb := bindT_len tg _ e12
    rw [wipeR_len] at hlb
    refine ⟨E.set D, F3, ι2, ⟨wipe s2.sl own, s2.st⟩, _, S3, q, l, e12, fun σ3 S4 w4 => ⟨(w4 own ht).trans (wipe_wipe σ own), ?_⟩⟩
    refine ⟨E.set D, F3, ι2, ⟨l, s2.st⟩, S4, kr, s6, kb, e13, e15, fun F5 ι5 H5 S5 st5 => ?_⟩
    have hHD5 := keepD S4 st5 hHD3
    have w5 : L2.wipe σ3 own = L2.wipe σ own := (w4 own ht).trans (wipe_wipe σ own)
    have len6 : s6.sl.length = s1.sl.length := by
      have := S5.len
      have := S4.len
      simp only at *
      omega
    cases kb with
    | false =>
      rw [if_neg Bool.false_ne_true] at g4
      refine iteF ?_
      cases g4
      refine ⟨F5, ι5, _, rest2, acc, vs, ?_, ((st2.trans st3).trans st5), len6, e10, by rw [erest]; rfl, hHD5, dpa_mono (st3.fz.trans st5.fz) _ _ hacc, by omega⟩
      have := S5.wiped own
      rw [w5] at this
      exact this
    | true =>
      rw [if_pos rfl] at g4
      refine iteT ?_
      obtain ⟨yr, s9, e16, g5⟩ := bd_some g4
      obtain ⟨e17, e99⟩ := on_some g5
      cases e99
      refine tE.go S5 e16 fun yv F6 ι6 H6 S6 st6 rr6 f6 => ?_
      split at e17
      · rename_i d e18
        cases e17
        obtain ⟨F7, S7, st7, q7⟩ := S6.froze rr6 f6 e18
        have hHD7 := keepD S6 st7 (keepD S5 st6 hHD5)
        have hacc7 := dpa_mono (((st3.fz.trans st5.fz).trans st6.fz).trans st7.fz) _ _ hacc
        refine ⟨vs, hHD7, by rw [dpa_len hacc, sizeL]; omega, F7, ι6, _, rest2, acc ++ [d], vs ++ [yv], ?_, (((st2.trans st3).trans st5).trans st6).trans st7 |>.upd hD, ?_, e10, by rw [erest, List.append_assoc]; rfl, upd_same, ?_, by rw [List.length_append, List.length_singleton]; omega⟩
        · have := (S7.wiped own).asideUpd (o := .lst (vs ++ [yv])) a1
          rw [w5] at this
          exact this
        · have h1 := S6.len
          have h2 := S5.len
          simp only at *
          omega
        · cases q7 with
          | d q7 => exact dpa_app hacc7 (.cons q7 .nil)
      · cases e17
  · -- the end
    have ei : i = xs.length := by omega
    subst ei
    rw [List.drop_length] at e8
    simp only [lcL] at e8
    cases e8
    rw [List.append_nil] at erest
    subst erest
    refine .inl ⟨(iok H2 (st2.fz.trans S2.sub)).2, ?_⟩
    have S9 := S2.unaside.backed S1 st2 hno hl2
    obtain ⟨r1, r2, r3, r4⟩ := S2.res D (.inr rfl)
    refine k _ F2 ι2 H2 S9 (st1.trans st2) (.own ⟨⟨vs, hHD, hacc⟩, r1, r3⟩) fun zs b e1' e2' => ?_
    cases e2'
    refine ⟨a1, fun j ws o' hj => ?_, a5⟩
    -- D stands in no slot of its own lists
    have : (back s7.sl s1.sl own)[j]? = some (some (.own ws)) := o'
    rw [back_get own _ _ j hl2] at this
    by_cases cj : j ∈ own
    · rw [if_pos cj] at this
      exact a4 j ws this hj
    · rw [if_neg cj] at this
      exact r4 j ws (by show (wipe s7.sl own)[j]? = _; rw [wipeR_get, if_neg cj]; exact this) (by rw [wipe_get, if_neg cj]; exact hj)
/-! ### comprehensions of several clauses -/
theorem wipe_sub {σ : L2.St} {own own1 : List Nat} (h : ∀ i ∈ own1, i ∈ own) : L2.wipe (L2.wipe σ own1) own = L2.wipe σ own := by
  apply List.ext_getElem?
  intro j
  rw [wipe_get, wipe_get, wipe_get]
  by_cases c : j ∈ own
  · rw [if_pos c, if_pos c]
    split
    · rw [Option.map_map]
      rfl
    · rfl
  · rw [if_neg c, if_neg c, if_neg (fun z => c (h j z))]
theorem wipeR_sub {l : List (Option R)} {own own1 : List Nat} (h : ∀ i ∈ own1, i ∈ own) : wipe (wipe l own1) own = wipe l own := by
  apply List.ext_getElem?
  intro j
  rw [wipeR_get, wipeR_get, wipeR_get]
  by_cases c : j ∈ own
  · rw [if_pos c, if_pos c]
    split
    · rw [Option.map_map]
      rfl
    · rfl
  · rw [if_neg c, if_neg c, if_neg (fun z => c (h j z))]
def testG (g : Gd) (own : List Nat) (tg : Tg) (c : Ex) (x : PyData) (s2 : S) : Option (Bool × S) := bd (on (bindT tg x (wipe s2.sl own)) s2) fun l s3 => bd (ev g.cal g.G c ⟨l, s3.st⟩) fun k s4 => on (asB s4.st k) s4
/-- what stands behind the tests of a clause -/
def TailOk (g : Gd) (E : Ent) (D : Addr) (F1 : Hp) (ι1 : List Addr) (H1 : Hp) (own : List Nat) (fb : S → Option (List PyData × S)) (tail : L2.St → Hp → (Hp → Prop) → Prop) : Prop :=
  ∀ (F : Hp) (ι : List Addr) (s : S) (σ : L2.St) (H : Hp) (acc : List PyData) (vs : List V) (r : List PyData) (s' : S) (Nx : Hp → Prop), Stt g.K g.fa (E.set D) F ι s σ H → Stp F1 ι1 H1 F ι H → fb s = some (r, s') → H D = some (.lst vs) → DqAll g.K F vs acc → (acc ++ r).length ≤ 16777215 →
    (∀ F' ι' H' vs', Stt g.K g.fa (E.set D) F' ι' ⟨wipe s'.sl own, s'.st⟩ (L2.wipe σ own) H' → Stp F1 ι1 H1 F' ι' H' → Same F F' → s'.sl.length = s.sl.length → H' D = some (.lst vs') → DqAll g.K F' vs' (acc ++ r) → Nx H') → tail σ H Nx
theorem keepD {E : Ent} {D : Addr} {Fa Ha Fb Hb : Hp} {ιa ιb : List Addr} {sa : S} {σa : L2.St} {o : HO} (Sa : Stt g.K g.fa (E.set D) Fa ιa sa σa Ha) (hs : Stp Fa ιa Ha Fb ιb Hb) (hd : Ha D = some o) : Hb D = some o := hs.ext _ _ hd (Sa.res D (.inr rfl)).2.2.1
theorem loopG {own : List Nat} {tg : Tg} {c : Ex} {E : Ent} {D : Addr} {F1 : Hp} {ι1 : List Addr} {H1 : Hp} {fb : S → Option (List PyData × S)} {tail : L2.St → Hp → (Hp → Prop) → Prop} (ht : ∀ i ∈ tgv tg, i ∈ own) (hb : TailOk g E D F1 ι1 H1 own fb tail)
    {F : Hp} {ι : List Addr} {s : S} {σ : L2.St} {H : Hp} {acc : List PyData} {vs : List V} {r : List PyData} {s' : S} {Nx : Hp → Prop} {J : L2.It} {xs : List PyData} (S0 : Stt g.K g.fa (E.set D) F ι s σ H) (st0 : Stp F1 ι1 H1 F ι H) (iok : ItOk g.K F J xs)
    (e : lcM fb (testG g own tg c) xs s = some (r, s')) (hD : H D = some (.lst vs)) (q : DqAll g.K F vs acc) (hl : (acc ++ r).length ≤ 16777215)
    (k : ∀ F' ι' H' vs', Stt g.K g.fa (E.set D) F' ι' ⟨wipe s'.sl own, s'.st⟩ (L2.wipe σ own) H' → Stp F1 ι1 H1 F' ι' H' → Same F F' → s'.sl.length = s.sl.length → H' D = some (.lst vs') → DqAll g.K F' vs' (acc ++ r) → Nx H') :
    ∃ W1 : Nat → Nat → Hp → Prop, (∃ m, W1 0 m H) ∧ ∀ j k H, W1 j k H → (J.stop j H ∧ Nx H) ∨ (J.go j H ∧ ∃ Nx1 : Hp → Prop, (∀ H', Nx1 H' → ∃ k', k' < k ∧ W1 (j + 1) k' H') ∧ ∀ x H', J.yld j H x H' →
      gT g tg x (L2.wipe σ own) H' fun σ3 H5 => L2.wipe σ3 own = L2.wipe σ own ∧ tT g c σ3 H5 fun b H6 => if b = true then tail σ3 H6 Nx1 else Nx1 H6) := by
  refine ⟨fun i m H => m = xs.length - i ∧ i ≤ xs.length ∧ ∃ F2 ι2 s2 rest a2 v2, Stt g.K g.fa (E.set D) F2 ι2 ⟨wipe s2.sl own, s2.st⟩ (L2.wipe σ own) H ∧ Stp F1 ι1 H1 F2 ι2 H ∧ Same F F2 ∧ s2.sl.length = s.sl.length ∧ lcM fb (testG g own tg c) (xs.drop i) s2 = some (rest, s') ∧ acc ++ r = a2 ++ rest ∧
      H D = some (.lst v2) ∧ DqAll g.K F2 v2 a2, ⟨xs.length, by simp, Nat.zero_le _, F, ι, s, r, acc, vs, S0.wiped own, st0, Same.refl _, rfl, by rw [List.drop_zero]; exact e, rfl, hD, q⟩, ?_⟩
  rintro i m H2 ⟨rfl, hi, F2, ι2, s2, rest, a2, v2, S2, st2, fz2, hl2, e8, er, hHD, hacc⟩
  by_cases hlt : i < xs.length
  · -- a turn
    have hx : xs[i]? = some xs[i] := List.getElem?_eq_getElem hlt
    rw [List.drop_eq_getElem_cons hlt] at e8
    simp only [lcM] at e8
    obtain ⟨kb, s3, e9, e8⟩ := bd_some e8
    obtain ⟨o, s4, e10, e8⟩ := bd_some e8
    obtain ⟨rest2, s5, e11, e8⟩ := bd_some e8
    cases e8
    obtain ⟨go, yl⟩ := (iok H2 (fz2.trans S2.sub)).1 i _ hx
    refine .inr ⟨go, fun H' => ∃ F3 ι3 s6 a3 v3, Stt g.K g.fa (E.set D) F3 ι3 ⟨wipe s6.sl own, s6.st⟩ (L2.wipe σ own) H' ∧ Stp F1 ι1 H1 F3 ι3 H' ∧ Same F F3 ∧ s6.sl.length = s.sl.length ∧ lcM fb (testG g own tg c) (xs.drop (i + 1)) s6 = some (rest2, s') ∧ acc ++ r = a3 ++ rest2 ∧
      H' D = some (.lst v3) ∧ DqAll g.K F3 v3 a3, fun H' ⟨F3, ι3, s6, a3, v3, h⟩ => ⟨xs.length - (i + 1), by omega, rfl, hlt, F3, ι3, s6, rest2, a3, v3, h⟩, fun x H' y => ?_⟩
    obtain ⟨F3, S3, st3, rr3, _⟩ := S2.made (Mk.mono fz2 (yl x H' y))
    unfold testG at e9
    obtain ⟨l, s6, e12, g2⟩ := bd_some e9
    obtain ⟨e13, e99⟩ := on_some e12
    cases e99
    obtain ⟨kr, s7, e14, g3⟩ := bd_some g2
    obtain ⟨e15, e99⟩ := on_some g3
    cases e99
    cases rr3 with
    | w q3 =>
    cases q3 with
    | d q3 =>
    have hHD3 := keepD S2 st3 hHD
    have hlb := bindT_len tg _ e13
    rw [wipeR_len] at hlb
    refine ⟨E.set D, F3, ι2, ⟨wipe s2.sl own, s2.st⟩, _, S3, q3, l, e13, fun σ3 S4 w4 => ?_⟩
    have w5 : L2.wipe σ3 own = L2.wipe σ own := (w4 own ht).trans (wipe_wipe σ own)
    refine ⟨w5, E.set D, F3, ι2, ⟨l, s2.st⟩, S4, kr, s3, kb, e14, e15, fun F5 ι5 H5 S5 st5 => ?_⟩
    have hHD5 := keepD S4 st5 hHD3
    have len6 : s3.sl.length = s.sl.length := by
      have := S5.len
      have := S4.len
      simp only at *
      omega
    have st35 := (st2.trans st3).trans st5
    have fz35 := (fz2.trans st3.fz).trans st5.fz
    have acc5 := dpa_mono (st3.fz.trans st5.fz) _ _ hacc
    cases kb with
    | false =>
      rw [if_neg Bool.false_ne_true] at e10
      refine iteF ?_
      cases e10
      refine ⟨F5, ι5, _, a2, v2, ?_, st35, fz35, len6, e11, by rw [er]; rfl, hHD5, acc5⟩
      have := S5.wiped own
      rw [w5] at this
      exact this
    | true =>
      rw [if_pos rfl] at e10
      refine iteT ?_
      refine hb F5 ι5 s3 σ3 H5 a2 v2 o s4 _ S5 st35 e10 hHD5 acc5 ?_ fun F6 ι6 H6 v6 S6 st6 fz6 len7 hD6 q6 => ?_
      · have : (acc ++ r).length = (a2 ++ (o ++ rest2)).length := congrArg List.length er
        simp only [List.length_append] at *
        omega
      · rw [w5] at S6
        exact ⟨F6, ι6, s4, a2 ++ o, v6, S6, st6, fz35.trans fz6, by omega, e11, by rw [er, List.append_assoc], hD6, q6⟩
  · -- the end
    have ei : i = xs.length := by omega
    subst ei
    rw [List.drop_length] at e8
    simp only [lcM] at e8
    cases e8
    rw [List.append_nil] at er
    subst er
    exact .inl ⟨(iok H2 (fz2.trans S2.sub)).2, k F2 ι2 H2 v2 S2 st2 fz2 hl2 hHD hacc⟩
/-- the last clause's tail: an item is put behind -/
def tailL (g : Gd) (D : Addr) (e : Ex) : L2.St → Hp → (Hp → Prop) → Prop := fun σ H Nx => tE g e σ H fun y H7 => ∃ acc, H7 D = some (.lst acc) ∧ acc.length < sizeLine ∧ Nx (upd H7 D (.lst (acc ++ [y])))
def lastG (g : Gd) (e : Ex) (s9 : S) : Option (List PyData × S) := bd (ev g.cal g.G e s9) fun z sa => on (match z.fz with | some (.d d) => some [d] | _ => none) sa
theorem tailL_ok {E : Ent} {D : Addr} {F1 : Hp} {ι1 : List Addr} {H1 : Hp} {own : List Nat} {e : Ex} (hD1 : H1 D = none) (a1 : E.H D = none) : TailOk g E D F1 ι1 H1 own (lastG g e) (tailL g D e) := by
  intro F ι s σ H acc vs r s' Nx S0 st0 e1 hD q hl k
  unfold lastG at e1
  obtain ⟨z, s1, e2, e3⟩ := bd_some e1
  obtain ⟨e4, e9⟩ := on_some e3
  cases e9
  refine tE.go S0 e2 fun y F2 ι2 H2 S2 st2 rr2 f2 => ?_
  split at e4
  · rename_i d e5
    cases e4
    obtain ⟨F3, S3, st3, q3⟩ := S2.froze rr2 f2 e5
    have hD3 := keepD S2 st3 (keepD S0 st2 hD)
    have acc3 := dpa_mono (st2.fz.trans st3.fz) _ _ q
    have hla : vs.length < sizeLine := by
      have := dpa_len q
      rw [sizeL]
      simp only [List.length_append, List.length_singleton] at hl
      omega
    refine ⟨vs, hD3, hla, k F3 ι2 _ (vs ++ [y]) ((S3.wiped own).asideUpd a1) (((st0.trans st2).trans st3).upd hD1) (st2.fz.trans st3.fz) ?_ upd_same ?_⟩
    · have := S3.len
      have := S0.len
      omega
    · cases q3 with
      | d q3 => exact dpa_app acc3 (.cons q3 .nil)
  · cases e4
/-- a further clause's tail: its own loop -/
def tailM (g : Gd) (it : It) (own : List Nat) (tg : Tg) (c : Ex) (tail : L2.St → Hp → (Hp → Prop) → Prop) : L2.St → Hp → (Hp → Prop) → Prop := fun σ H Nx => tI g it σ H fun J H4 => ∃ W1 : Nat → Nat → Hp → Prop, (∃ m, W1 0 m H4) ∧ ∀ j k H, W1 j k H →
  (J.stop j H ∧ Nx H) ∨ (J.go j H ∧ ∃ Nx1 : Hp → Prop, (∀ H', Nx1 H' → ∃ k', k' < k ∧ W1 (j + 1) k' H') ∧ ∀ x H', J.yld j H x H' → gT g tg x (L2.wipe σ own) H' fun σ3 H5 => L2.wipe σ3 own = L2.wipe σ own ∧ tT g c σ3 H5 fun b H6 => if b = true then tail σ3 H6 Nx1 else Nx1 H6)
def midG (g : Gd) (it : It) (own : List Nat) (tg : Tg) (c : Ex) (fb : S → Option (List PyData × S)) (s5 : S) : Option (List PyData × S) := bd (evi g.cal g.G it s5) fun ys s6 => bd (on (if noOwn s6.sl own = true then fits ys else none) s6) fun ys s6 => lcM fb (testG g own tg c) ys s6
theorem tailM_ok {E : Ent} {D : Addr} {F1 : Hp} {ι1 : List Addr} {H1 : Hp} {own own1 : List Nat} {it : It} {tg : Tg} {c : Ex} {fb : S → Option (List PyData × S)} {tail : L2.St → Hp → (Hp → Prop) → Prop} (ht : ∀ i ∈ tgv tg, i ∈ own1) (hs : ∀ i ∈ own1, i ∈ own) (hb : TailOk g E D F1 ι1 H1 own1 fb tail) :
    TailOk g E D F1 ι1 H1 own (midG g it own1 tg c fb) (tailM g it own1 tg c tail) := by
  intro F ι s σ H acc vs r s' Nx S0 st0 e1 hD q hl k
  unfold midG at e1
  obtain ⟨ys, s1, e2, e3⟩ := bd_some e1
  obtain ⟨zs, s2, e4, e5⟩ := bd_some e3
  obtain ⟨e6, e9⟩ := on_some e4
  cases e9
  have hz : zs = ys := by
    by_cases z : noOwn s1.sl own1 = true
    · rw [if_pos z] at e6
      unfold fits at e6
      exact (ite_some e6).2.symm
    · rw [if_neg z] at e6; cases e6
  subst hz
  refine ⟨E.set D, F, ι, s, S0, zs, s1, e2, fun J F2 ι2 H2 S2 st2 iok => ?_⟩
  refine loopG ht hb S2 (st0.trans st2) iok e5 (keepD S0 st2 hD) (dpa_mono st2.fz _ _ q) hl fun F' ι' H' vs' S' st' fz' len' hD' q' => ?_
  have S3 := S'.wiped own
  rw [wipe_sub hs] at S3
  have e7 : wipe (wipe s'.sl own1) own = wipe s'.sl own := wipeR_sub hs
  refine k F' ι' H' vs' ?_ st' (st2.fz.trans fz') ?_ hD' q'
  · have S4 := S3
    simp only [e7] at S4
    exact S4
  · have := S2.len
    have := S0.len
    omega
/-- the whole, from its first clause -/
theorem lcG_r {own : List Nat} {tg : Tg} {it : It} {c : Ex} {x : Ex} {tail : Addr → L2.St → Hp → (Hp → Prop) → Prop} {fb : S → Option (List PyData × S)} (ht : ∀ i ∈ tgv tg, i ∈ own)
    (hx : ∀ s, ev g.cal g.G x s = bd (evi g.cal g.G it s) fun xs s1 => bd (on (if noOwn s1.sl own = true then fits xs else none) s1) fun xs s1 => bd (lcM fb (testG g own tg c) xs s1) fun r sb => bd (on (fits r) sb) fun r sb => some (.own r, ⟨back sb.sl s1.sl own, sb.st⟩))
    (hb : ∀ (E : Ent) (D : Addr) (F1 : Hp) (ι1 : List Addr) (H1 : Hp), H1 D = none → E.H D = none → TailOk g E D F1 ι1 H1 own fb (tail D)) : ∀ σ H Q, tE g x σ H Q →
    tI g it σ H fun J H1 => ∀ D, H1 D = none → ∃ W : Nat → Nat → Hp → Prop, (∃ m, W 0 m (upd H1 D (.lst []))) ∧ ∀ i m H, W i m H →
      (J.stop i H ∧ Q (.ref D) H) ∨ (J.go i H ∧ ∃ Nx : Hp → Prop, (∀ H', Nx H' → ∃ m', m' < m ∧ W (i + 1) m' H') ∧ ∀ x H', J.yld i H x H' → gT g tg x (L2.wipe σ own) H' fun σ2 H2 => L2.wipe σ2 own = L2.wipe σ own ∧ tT g c σ2 H2 fun b H3 => if b = true then tail D σ2 H3 Nx else Nx H3) := by
  intro σ H Q ⟨E, F, ι, s, S0, r, s', h1, k⟩
  rw [hx] at h1
  obtain ⟨xs, s0, e1, h1⟩ := bd_some h1
  obtain ⟨ys, s1, e2, h1⟩ := bd_some h1
  obtain ⟨e3, e9⟩ := on_some e2
  subst e9
  obtain ⟨hno, e4⟩ : noOwn s1.sl own = true ∧ fits xs = some ys := by
    by_cases q : noOwn s1.sl own = true
    · rw [if_pos q] at e3; exact ⟨q, e3⟩
    · rw [if_neg q] at e3; cases e3
  unfold fits at e4
  obtain ⟨hlen, rfl⟩ := ite_some e4
  obtain ⟨rs, s7, e7, h1⟩ := bd_some h1
  obtain ⟨rs2, s8, e8, h1⟩ := bd_some h1
  obtain ⟨e10, e9⟩ := on_some e8
  cases e9
  unfold fits at e10
  obtain ⟨hlen2, rfl⟩ := ite_some e10
  cases h1
  refine ⟨E, F, ι, s, S0, xs, s1, e1, fun J F1 ι1 H1 S1 st1 iok D hD => ?_⟩
  obtain ⟨a1, a2, a3, a4, a5⟩ := S1.fresh hD
  refine loopG ht (hb E D F1 ι1 H1 hD a1) (acc := []) (S1.aside hD) (Stp.lay hD) iok e7 upd_same .nil (by simpa using hlen2) fun F2 ι2 H2 vs S2 st2 fz2 hl2 hHD hacc => ?_
  have S9 := S2.unaside.backed S1 st2 hno hl2
  obtain ⟨r1, r2, r3, r4⟩ := S2.res D (.inr rfl)
  refine k _ F2 ι2 H2 S9 (st1.trans st2) (.own ⟨⟨vs, hHD, hacc⟩, r1, r3⟩) fun zs b e1' e2' => ?_
  cases e2'
  refine ⟨a1, fun j ws o' hj => ?_, a5⟩
  have : (back s7.sl s1.sl own)[j]? = some (some (.own ws)) := o'
  rw [back_get own _ _ j hl2] at this
  by_cases cj : j ∈ own
  · rw [if_pos cj] at this
    exact a4 j ws this hj
  · rw [if_neg cj] at this
    exact r4 j ws (by show (wipe s7.sl own)[j]? = _; rw [wipeR_get, if_neg cj]; exact this) (by rw [wipe_get, if_neg cj]; exact hj)
theorem lc2_r {own own1 : List Nat} {tg tg1 : Tg} {it it1 : It} {c c1 e : Ex} (ht : ∀ i ∈ tgv tg, i ∈ own) (ht1 : ∀ i ∈ tgv tg1, i ∈ own1) (hs : ∀ i ∈ own1, i ∈ own) : ∀ σ H Q, tE g (.lc2 own own1 tg it c tg1 it1 c1 e) σ H Q → tLc2 (tI g it) (gT g tg) (tT g c) (tI g it1) (gT g tg1) (tT g c1) (tE g e) own own1 σ H Q :=
  fun σ H Q h => lcG_r (fb := midG g it1 own1 tg1 c1 (lastG g e)) (tail := fun D => tailM g it1 own1 tg1 c1 (tailL g D e)) ht (fun s => by simp only [ev]; rfl) (fun E D F1 ι1 H1 h1 h2 => tailM_ok ht1 hs (tailL_ok h1 h2)) σ H Q h
end
end Xp

/-! EnD: a display of words, read at once. -/
namespace Xp
open PySem PySem.Spec PyProof.Rows L2
section
variable {g : Gd} {X : Cx} {sc : Scope}
def dTrs (g : Gd) : List Str → Exs → List (TE × TE)
  | k :: ks, .cons e es => (tE g (.str k), tE g e) :: dTrs g ks es
  | _, _ => []
theorem str_v {F H : Hp} {v : V} {K : PySem.W.Frag} {fa : Nat → Option Addr} {ι : List Addr} {x : Str} (h : RR K fa F ι H v (.s x)) : v = .str x := by
  cases h with
  | w q => cases q with
    | d q => cases q; rfl
def zipK : List Str → List V → List (Key × V)
  | k :: ks, v :: vs => (.inr k, v) :: zipK ks vs
  | _, _ => []
theorem dTrs_run : ∀ (ks : List Str) (es : Exs) {E : Ent} {F : Hp} {ι : List Addr} {s s' : S} {σ : L2.St} {H : Hp} {ws : List W} {Q : List (V × V) → Hp → Prop}, ks.length = es.len → Stt g.K g.fa E F ι s σ H → evs g.cal g.G es s = some (ws, s') →
    (∀ vs F' ι' H', Stt g.K g.fa E F' ι' s' σ H' → Stp F ι H F' ι' H' → RWs g.K g.fa F' ι' vs ws → Q ((zipK ks vs).map fun kv => (kV kv.1, kv.2)) H') → tPairs (dTrs g ks es) σ H Q
  | [], .nil, E, F, ι, s, s', σ, H, ws, Q, hl, S0, h, k => by
    simp only [evs] at h
    cases h
    exact k [] F ι H S0 Stp.rfl .nil
  | x :: ks, .cons e es, E, F, ι, s, s', σ, H, ws, Q, hl, S0, h, k => by
    simp only [evs] at h
    replace h := bd_some h
    obtain ⟨r1, s1, e1, h⟩ := h
    replace h := bd_some h
    obtain ⟨w, s2, e2, h⟩ := h
    replace e2 := on_some e2
    obtain ⟨e2, rfl⟩ := e2
    replace h := bd_some h
    obtain ⟨us, s3, e3, h⟩ := h
    cases h
    show tE g (.str x) σ H _
    refine tE.go S0 (r := .s x) (s' := s) (by simp only [ev]) fun v0 F0 ι0 H0 S1 st0 rr0 f0 => ?_
    have ev0 := str_v rr0
    subst ev0
    refine tE.go S1 e1 fun v F1 ι1 H1 S2 st1 rr1 f1 => ?_
    obtain ⟨F2, S3, st2, q2⟩ := S2.froze rr1 f1 e2
    exact dTrs_run ks es (by simpa [Exs.len] using hl) S3 e3 fun vs F3 ι3 H3 S4 st3 q3 => k (v :: vs) F3 ι3 H3 S4 (((st0.trans st1).trans st2).trans st3) (.cons (q2.mono st3) q3)
  | [], .cons _ _, _, _, _, _, _, _, _, _, _, hl, _, _, _ => by simp [Exs.len] at hl
  | _ :: _, .nil, _, _, _, _, _, _, _, _, _, hl, _, _, _ => by simp [Exs.len] at hl
theorem zip_len : ∀ (ks : List Str) (vs : List V), (zipK ks vs).length ≤ ks.length
  | [], vs => by cases vs <;> exact Nat.le_refl _
  | k :: ks, [] => Nat.zero_le _
  | k :: ks, v :: vs => by
    have := zip_len ks vs
    simp only [zipK, List.length_cons]
    omega
theorem key_at {K : PySem.W.Frag} {F : Hp} {ks : List Str} {ds : List PyData} {vs : List V} {z : Str} {d : PyData} (h : keyAt ks ds z = some d) (q : DqAll K F vs ds) : ∃ v, valV (mergeK [] (zipK ks vs)) (.inr z : Key) = some v ∧ Dq K F v d := by
  unfold keyAt at h
  split at h
  · rename_i a b c x y w
    by_cases hd : (decide (a ≠ b) && decide (a ≠ c) && decide (decide (b ≠ c) = true)) = true
    rotate_left
    · rw [if_neg hd] at h
      cases h
    rw [if_pos hd] at h
    simp only [Bool.and_eq_true, decide_eq_true_eq] at hd
    obtain ⟨⟨hab, hac⟩, hbc⟩ := hd
    cases q with
    | cons q1 q => cases q with
      | cons q2 q => cases q with
        | cons q3 q =>
          cases q
          rename_i v1 v2 v3
          have e : mergeK [] (zipK [a, b, c] [v1, v2, v3]) = putK (putK (putK [] (.inr a : Key) v1) (.inr b) v2) (.inr c) v3 := rfl
          have inj : ∀ {p q : Str}, p ≠ q → ¬ (Sum.inr p : Key) = Sum.inr q := fun n e => n (Sum.inr.inj e)
          rw [e]
          rw [valV_put, valV_put, valV_put]
          by_cases e1 : z = a
          · subst e1
            rw [if_pos rfl] at h
            cases h
            rw [if_neg (inj hac), if_neg (inj hab), if_pos rfl]
            exact ⟨_, rfl, q1⟩
          · rw [if_neg e1] at h
            by_cases e2 : z = b
            · subst e2
              rw [if_pos rfl] at h
              cases h
              rw [if_neg (inj hbc), if_pos rfl]
              exact ⟨_, rfl, q2⟩
            · rw [if_neg e2] at h
              by_cases e3 : z = c
              · subst e3
                rw [if_pos rfl] at h
                cases h
                rw [if_pos rfl]
                exact ⟨_, rfl, q3⟩
              · rw [if_neg e3] at h
                cases h
  · cases h
theorem dsel_r {ks : List Str} {es : Exs} {a : Ex} (hl : ks.length = es.len) (h15 : ks.length ≤ 15) : ∀ σ H Q, tE g (.dsel ks es a) σ H Q → tDGet (tDisp (dTrs g ks es)) (tE g a) σ H Q := by
  intro σ H Q ⟨E, F, ι, s, S0, r, s', h1, k⟩
  simp only [ev] at h1
  replace h1 := bd_some h1
  obtain ⟨ws, s1, e1, h1⟩ := h1
  replace h1 := bd_some h1
  obtain ⟨x, s2, e2, h1⟩ := h1
  obtain ⟨h1, e9⟩ := on_some h1
  subst e9
  rw [Option.bind_eq_some_iff] at h1
  obtain ⟨ds, e3, h1⟩ := h1
  rw [Option.bind_eq_some_iff] at h1
  obtain ⟨p, e4, h1⟩ := h1
  show ∀ D, H D = none → _
  intro D hD
  obtain ⟨a1, a2, a3, a4, a5⟩ := S0.fresh hD
  have S1 : Stt g.K g.fa (E.set D) F ι s σ (upd H D (.dK [])) := S0.aside hD
  refine dTrs_run ks es hl S1 e1 fun vs F1 ι1 H1 S2 st1 q1 => ?_
  have hd1 : H1 D = some (.dK []) := keepD S1 st1 upd_same
  refine ⟨hd1, zipK ks vs, rfl, Nat.le_trans (zip_len ks vs) h15, ?_⟩
  have S3 := S2.asideUpd (o := .dK (mergeK [] (zipK ks vs))) a1
  refine tE.go S3 e2 fun y F2 ι2 H2 S4 st2 rr2 f2 => ?_
  have hd2 : H2 D = some (.dK (mergeK [] (zipK ks vs))) := keepD S3 st2 upd_same
  cases p with
  | str z =>
    obtain ⟨d, e5, e6⟩ := Option.map_eq_some_iff.mp h1
    subst e6
    have ey : y = .str z := by
      have := S4.rv rr2 e4
      cases (show Dq _ _ y (.str z) from this)
      rfl
    subst ey
    obtain ⟨v, e7, e8⟩ := key_at e5 (asD_of q1 e3)
    refine ⟨D, v, rfl, by rw [← e7]; exact DGet.k (k := .inr z) hd2, ?_⟩
    have S5 := S4.unaside
    have stp : Stp F ι H F2 ι2 H2 := (((Stp.lay hD).trans st1).upd hD).trans st2
    exact k v F2 ι2 H2 S5 stp (.w (.d (dp_mono st2.fz _ _ e8))) fre_w
  | _ => cases h1
theorem keys_cons {k : Str} {ks : List Str} : ∀ {keys : List (Option Expr)}, keysOk (k :: ks) keys = true → ∃ a b r, keys = some (.Constant (.str k) a b) :: r ∧ keysOk ks r = true
  | some (.Constant (.str y) a b) :: r, h => by
    simp only [keysOk, Bool.and_eq_true, decide_eq_true_eq] at h
    obtain ⟨rfl, h⟩ := h
    exact ⟨a, b, r, rfl, h⟩
  | [], h => by simp [keysOk] at h
  | none :: _, h => by simp [keysOk] at h
  | some e :: r, h => by
    unfold keysOk at h
    split at h
    · rename_i e1
      cases e1
    · rename_i a b c d e1 e2 e3
      cases e2
      cases e3
      simp only [Bool.and_eq_true, decide_eq_true_eq] at h
      obtain ⟨rfl, h⟩ := h
      exact ⟨_, _, _, rfl, h⟩
    · cases h
theorem keys_len : ∀ {ks : List Str} {keys : List (Option Expr)}, keysOk ks keys = true → keys.length = ks.length ∧ keys.all (·.isSome) = true
  | [], [], _ => ⟨rfl, rfl⟩
  | [], _ :: _, h => by simp [keysOk] at h
  | k :: ks, keys, h => by
    obtain ⟨a, b, r, rfl, h2⟩ := keys_cons h
    obtain ⟨l, q⟩ := keys_len h2
    exact ⟨by rw [List.length_cons, List.length_cons, l], by rw [List.all_cons, q]; rfl⟩
theorem snd_dsel (O : XOk g X sc) {ks : List Str} {es : Exs} {a : Ex} {keys : List (Option Expr)} {values : List Expr} {A : Expr} {p1 pos : Pos} (hp : PPs X p1 keys values (dTrs g ks es)) (hk : keysOk ks keys = true) (hv : values.length = ks.length) (he : ks.length = es.len) (h0 : ks ≠ []) (h15 : ks.length ≤ 15)
    (ha : PE X A (tE g a)) (hs : NoSl A) : PE X (.Subscript (.Dict keys values p1) A pos) (tE g (.dsel ks es a)) := by
  obtain ⟨l, q⟩ := keys_len hk
  refine PE.weak (pe_dget (by have := O.room; omega) (pe_disp hp q (by rw [l, hv]) (fun z => h0 ?_) (by rw [l]; exact h15)) ha hs) (dsel_r he h15)
  have := congrArg List.length z
  rw [l] at this
  exact List.eq_nil_of_length_eq_zero this
end
end Xp

/-! E11: every expression of the small language. -/
namespace Xp
open PySem PySem.Spec PyProof.Rows L2
section
variable {g : Gd}
theorem relab {env : Env} {x : Str} {k : NameKind} (hk : k ≠ .free) : ∀ {names : List (Str × NameKind)}, names.lookup x = some k →
    (names.map fun (n, k) => if (k == NameKind.free && env.scope.kind == .function && env.kindOf n == some .cell) then (n, NameKind.cell) else (n, k)).lookup x = some k
  | [], h => by simp at h
  | (n, j) :: r, h => by
    have ih := @relab env x k hk r
    rw [List.lookup_cons] at h
    show List.lookup x ((if (j == NameKind.free && env.scope.kind == .function && env.kindOf n == some .cell) = true then (n, NameKind.cell) else (n, j)) :: _) = _
    cases hx : x == n with
    | true =>
      rw [hx] at h
      have hj : j = k := Option.some.inj h
      have hf : (j == NameKind.free) = false := by rw [hj]; cases k <;> first | rfl | exact absurd rfl hk
      rw [hf, Bool.false_and, Bool.false_and, if_neg Bool.false_ne_true, List.lookup_cons, hx]
      exact h
    | false =>
      rw [hx] at h
      have hs : ∀ y : Str × NameKind, y.1 = n → ∀ l : List (Str × NameKind), List.lookup x (y :: l) = List.lookup x l := fun y hy l => by
        obtain ⟨y1, y2⟩ := y
        simp only at hy
        subst hy
        rw [List.lookup_cons, hx]
      rw [hs _ (by split <;> rfl)]
      exact ih h
theorem XOk.blk {X : Cx} {sc : Scope} (O : XOk g X sc) (s : Shared) (H : Hp) (scope : Scope) (C : Addr) (cl : List (Str × Addr)) (fp : List Addr) : XOk g (X.blk s H scope (compEnvC scope cl C X.env) fp) (relS scope sc) where
  eK := O.eK
  calm := O.calm
  eN := O.eN
  nd := O.nd
  sc := by rw [← O.sc]; rfl
  room := O.room
  grd := O.grd
  fns := O.fns
  fcl := O.fcl
  gls := O.gls
  blt := O.blt
  xe := rfl
  gcd := O.gcd
theorem sto_blk {X : Cx} (s : Shared) (H : Hp) (scope : Scope) (C : Addr) (cl : List (Str × Addr)) (fp : List Addr) : Sto (X.blk s H scope (compEnvC scope cl C X.env) fp) scope := fun x =>
  ⟨fun h => relab (by decide) h, fun h => ⟨relab (by decide) h, by show (scope.names.lookup x == some .cell) = true; rw [h]; rfl⟩⟩
theorem fold_call {f : Expr} {es : List Expr} {ks : List Keyword} {pos : Pos} {env : Env} : ∀ x, foldedSetIterable (.Call f es ks pos) env x = pure x := fun _ => rfl
theorem fold_of {e : Expr} {env : Env} (h : (match e with | .Set .. => false | _ => true) = true) : ∀ x, foldedSetIterable e env x = pure x := fun x => by
  cases e <;> first | rfl | cases h
theorem chkI_fold {N : List Str} {L : Lk} {sc : Scope} {it : It} {t e : Expr} {env : Env} (h : chkI N L it sc t e = true) : ∀ x, foldedSetIterable e env x = pure x := by
  cases it with
  | seq a =>
    unfold chkI at h
    simp only [Bool.and_eq_true] at h
    exact fold_of h.2
  | rng1 a => unfold chkI at h; split at h; exact fold_call; cases h
  | rng2 a b => unfold chkI at h; split at h; exact fold_call; cases h
  | rng3 a b c => unfold chkI at h; split at h; exact fold_call; cases h
  | enum a => unfold chkI at h; split at h; exact fold_call; cases h
  | zip a b => unfold chkI at h; split at h; exact fold_call; cases h
theorem pts_yes {X : Cx} : PTs X [] (tT g (.bl true)) := ⟨fun pins s σ H Q I ⟨E, F, ι, s0, S0, r, s', b, h1, hb, k⟩ => pts_nil.run pins s σ H Q I (by
  simp only [ev] at h1
  cases h1
  cases hb
  exact k F ι H S0 Stp.rfl)⟩
def Both (g : Gd) (X : Cx) (e : Expr) (x : Ex) : Prop := PE X e (tE g x) ∧ PT X e (tT g x)
theorem both_of {X : Cx} {e : Expr} {x : Ex} (h : PE X e (tE g x)) (he : ∀ whole, isTrue e X.env whole = (do let v ← whole; standAt e.pos; holding [v] (truthy v))) : Both g X e x := ⟨h, pt_of h he⟩
theorem snd_cav {X : Cx} {sc : Scope} (O : XOk g X sc) {i : Nat} {es : Exs} {x : Str} {p pos : Pos} {y : Expr} {l : List Expr} (h1 : okV g.N sc i x = true) (hc : chks g.N g.L es sc (y :: l) = true) (ha : PA X (y :: l) (tAs g es)) : PE X (.Call (.Name x p) (y :: l) [] pos) (tE g (.cav i es)) := by
  refine ⟨fun pins s σ H Q I ⟨E, F, ι, s0, S0, r, s', h2, k⟩ => ?_⟩
  simp only [ev] at h2
  split at h2
  · rename_i f c
    obtain ⟨v, q1, q2, q3⟩ := S0.slot _ _ c
    cases q2 with
    | w q =>
    cases q with
    | @fn _ a q =>
    obtain ⟨kp, hcl⟩ := O.fcl f a q
    cases es with
    | nil => simp [chks] at hc
    | cons b bs =>
      have hc2 := hc
      simp only [chks, Bool.and_eq_true] at hc2
      refine wpAny_Call_Name_kw (thn ((pe_varB O h1).run pins s σ H (fun w H' => w = .ref a ∧ H' = H) I ⟨.ref a, q1, rfl, rfl⟩) fun u s1 ⟨w, H1, I1, r1, ew, eH⟩ => ?_)
      subst ew
      subst eH
      cases r1
      have rd := (cal_r (g := g) (f := f) (es := .cons b bs) (x := .cal f (.cons b bs)) (fun s => by simp only [ev]; try rfl)) σ H1 Q ⟨E, F, ι, s0, S0, r, s', by simp only [ev]; exact h2, k⟩
      exact PySem.W.callWith_K (h₀ := X.base) I1.ok.mod.kin kp (thn (ha.run pos pins s1 σ H1 _ I1 rd) fun us s2 ⟨vs, H2, I2, r, q⟩ => ⟨I2.kIn, hcl X rfl rfl rfl rfl rfl rfl pins s2 σ H2 vs us Q I2 r q⟩) (star_of hc2.2) (plain_args bs l hc2.1.2)
  · cases h2
theorem u1_plain {X : Cx} {sc : Scope} {e : Expr} {f : U1} {a : Ex} (O : XOk g X sc) (ih : ∀ e, chk g.N g.L a sc e = true → Both g X e a)
    (h : (match e with | .Call (.Name x _) [y] [] _ => decide (x = u1name f) && !decide (x = "") && okG sc x && chk g.N g.L a sc y && notStar y | _ => false) = true) : Both g X e (.u1 f a) := by
  split at h
  · simp only [Bool.and_eq_true, decide_eq_true_eq, Bool.not_eq_true', decide_eq_false_iff_not] at h
    obtain ⟨⟨⟨⟨h1, h2⟩, h3⟩, h4⟩, h5⟩ := h
    exact both_of (snd_u1 O h1 h2 h3 (ih _ h4).1 h5) fun _ => rfl
  · cases h
theorem chkp_ne {N : List Str} {L : Lk} {x : Ex} {sc : Scope} (h : x ≠ .nopart) {o : Option Expr} : chkp N L x sc o = (match o with | some y => chk N L x sc y | none => false) := by
  cases x <;> first | exact absurd rfl h | (unfold chkp; rfl)
theorem noSl_of {e : Expr} (h : notSlice e = true) : NoSl e := fun o i => by cases e <;> first | rfl | cases h
mutual
theorem snd_e : ∀ (x : Ex) (X : Cx) (sc : Scope) (e : Expr), XOk g X sc → chk g.N g.L x sc e = true → Both g X e x
  | .int i, X, sc, e, O, h => by
    unfold chk at h
    split at h
    · cases of_decide_eq_true h
      exact both_of (pe_lit pe_int (fun F => .int i) fun s => by simp only [ev]) fun _ => rfl
    · cases h
  | .bl b, X, sc, e, O, h => by
    unfold chk at h
    split at h
    · cases eq_of_beq h
      exact both_of (pe_lit pe_bl (fun F => .bl b) fun s => by simp only [ev]) fun _ => rfl
    · cases h
  | .non, X, sc, e, O, h => by
    unfold chk at h
    split at h
    · exact both_of (pe_lit pe_non (fun F => .non) fun s => by simp only [ev]) fun _ => rfl
    · cases h
  | .str x, X, sc, e, O, h => by
    unfold chk at h
    split at h
    · cases of_decide_eq_true h
      exact both_of (pe_lit pe_str (fun F => .str x) fun s => by simp only [ev]) fun _ => rfl
    · cases h
  | .var i, X, sc, e, O, h => by
    unfold chk at h
    split at h
    · exact both_of (snd_var O h) fun _ => rfl
    · cases h
  | .vb i, X, sc, e, O, h => by
    unfold chk at h
    split at h
    · exact both_of (snd_vb O h) fun _ => rfl
    · cases h
  | .vm i, X, sc, e, O, h => by
    unfold chk at h
    split at h
    · exact both_of (snd_vm O h) fun _ => rfl
    · cases h
  | .glb i, X, sc, e, O, h => by
    unfold chk at h
    split at h
    · simp only [Bool.and_eq_true, decide_eq_true_eq] at h
      exact both_of (snd_glb O h.1 h.2) fun _ => rfl
    · cases h
  | .fnv i, X, sc, e, O, h => by
    unfold chk at h
    split at h
    · simp only [Bool.and_eq_true, decide_eq_true_eq] at h
      exact both_of (snd_fnv O h.1 h.2) fun _ => rfl
    · cases h
  | .scr a, X, sc, e, O, h => by
    unfold chk at h
    split at h
    · simp only [Bool.and_eq_true, decide_eq_true_eq] at h
      obtain ⟨⟨⟨rfl, h2⟩, h3⟩, h4⟩ := h
      exact both_of (snd_scr O h2 (snd_e a X sc _ O h3).1 h4) fun _ => rfl
    · cases h
  | .tup es, X, sc, e, O, h => by
    unfold chk at h
    split at h
    · simp only [Bool.and_eq_true, decide_eq_true_eq] at h
      exact both_of (snd_tup (snd_a es X sc _ O h.1) h.1 h.2) fun _ => rfl
    · cases h
  | .lst es, X, sc, e, O, h => by
    unfold chk at h
    split at h
    · simp only [Bool.and_eq_true, decide_eq_true_eq] at h
      exact both_of (snd_lst (snd_a es X sc _ O h.1) h.1 h.2) fun _ => rfl
    · cases h
  | .bin o a b, X, sc, e, O, h => by
    unfold chk at h
    split at h
    · simp only [Bool.and_eq_true] at h
      cases boE_eq h.1.1
      exact both_of (snd_bin O (snd_e a X sc _ O h.1.2).1 (snd_e b X sc _ O h.2).1) fun _ => rfl
    · cases h
  | .cmp o a b, X, sc, e, O, h => by
    unfold chk at h
    split at h
    · simp only [Bool.and_eq_true, Bool.not_eq_true'] at h
      obtain ⟨⟨⟨h1, h2⟩, h3⟩, h4⟩ := h
      cases coE_eq h1
      have pa := (snd_e a X sc _ O h2).1
      have pb := (snd_e b X sc _ O h3).1
      exact ⟨snd_cmp O pa pb h4, snd_cmpT O pa pb h4⟩
    · cases h
  | .cmp2 o o2 a b c, X, sc, e, O, h => by
    unfold chk at h
    split at h
    · simp only [Bool.and_eq_true, Bool.not_eq_true'] at h
      obtain ⟨⟨⟨⟨⟨h1, h0⟩, h2⟩, h3⟩, h4⟩, h5⟩ := h
      cases coE_eq h1
      cases coE_eq h0
      have pa := (snd_e a X sc _ O h2).1
      have pb := (snd_e b X sc _ O h3).1
      have pc := (snd_e c X sc _ O h4).1
      exact ⟨snd_cmp2 O pa pb pc h5, snd_cmp2T O pa pb pc h5⟩
    · cases h
  | .and a b, X, sc, e, O, h => by
    unfold chk at h
    split at h
    · rename_i x y r pos
      simp only [Bool.and_eq_true] at h
      have pa := snd_e a X sc _ O h.1
      cases r with
      | nil =>
        have pb := snd_e b X sc _ O h.2
        exact ⟨snd_and pa.1 (pe_one pb.1), (snd_andT pa.2 (pw_and1 pb.2)).pt⟩
      | cons z r =>
        have pb := snd_e b X sc _ O h.2
        exact ⟨snd_and pa.1 pb.1, (snd_andT pa.2 ⟨fun wh pins st σ H Q I q => pb.2.run pins st σ H Q I q⟩).pt⟩
    · cases h
  | .or a b, X, sc, e, O, h => by
    unfold chk at h
    split at h
    · rename_i x y r pos
      simp only [Bool.and_eq_true] at h
      have pa := snd_e a X sc _ O h.1
      cases r with
      | nil =>
        have pb := snd_e b X sc _ O h.2
        exact ⟨snd_or pa.1 (pe_one pb.1), (snd_orT pa.2 (pw_or1 pb.2)).pt⟩
      | cons z r =>
        have pb := snd_e b X sc _ O h.2
        exact ⟨snd_or pa.1 pb.1, (snd_orT pa.2 ⟨fun wh pins st σ H Q I q => pb.2.run pins st σ H Q I q⟩).pt⟩
    · cases h
  | .not a, X, sc, e, O, h => by
    unfold chk at h
    split at h
    · have pa := snd_e a X sc _ O h
      exact ⟨snd_not pa.1, snd_notT pa.2⟩
    · cases h
  | .ite c a b, X, sc, e, O, h => by
    unfold chk at h
    split at h
    · simp only [Bool.and_eq_true] at h
      have pc := snd_e c X sc _ O h.1.1
      have pa := snd_e a X sc _ O h.1.2
      have pb := snd_e b X sc _ O h.2
      refine ⟨snd_ite pc.2 pa.1 pb.1, ⟨fun pins st σ H Q I ⟨E, F, ι, s, S0, r, s', kb, h1, hb1, k⟩ => ?_⟩⟩
      simp only [ev] at h1
      obtain ⟨r1, s1, e1, h2⟩ := bd_some h1
      obtain ⟨kk, s2, e2, h3⟩ := bd_some h2
      obtain ⟨e3, e9⟩ := on_some e2
      cases e9
      refine wpAny_bind (thn (pc.2.run pins st σ H (fun kq H1 => if kq = true then tT g a σ H1 Q else tT g b σ H1 Q) I ⟨E, F, ι, s, S0, r1, _, kk, e1, e3, fun F1 ι1 H1 S1 st1 => ?_⟩) fun kz s1 ⟨H1, I1, q1⟩ => ?_)
      · cases kk with
        | true =>
          rw [if_pos rfl] at h3
          exact iteT ⟨E, F1, ι1, _, S1, r, s', kb, h3, hb1, fun F2 ι2 H2 S2 st2 => k F2 ι2 H2 S2 (st1.trans st2)⟩
        | false =>
          rw [if_neg Bool.false_ne_true] at h3
          exact iteF ⟨E, F1, ι1, _, S1, r, s', kb, h3, hb1, fun F2 ι2 H2 S2 st2 => k F2 ι2 H2 S2 (st1.trans st2)⟩
      · cases kz with
        | true => exact pa.2.run pins s1 σ H1 Q I1 q1
        | false => exact pb.2.run pins s1 σ H1 Q I1 q1
    · cases h
  | .cal f es, X, sc, e, O, h => by
    unfold chk at h
    split at h
    · simp only [Bool.and_eq_true, decide_eq_true_eq] at h
      exact both_of (snd_cal O h.1.1 h.1.2 h.2 (snd_a es X sc _ O h.2)) fun _ => rfl
    · simp only [Bool.and_eq_true, decide_eq_true_eq] at h
      have h3 := h.2
      split at h3
      · exact both_of (snd_cal0 O h.1.1 h.1.2) fun _ => rfl
      · cases h3
    · cases h
  | .cav i es, X, sc, e, O, h => by
    unfold chk at h
    split at h
    · simp only [Bool.and_eq_true] at h
      exact both_of (snd_cav O h.1 h.2 (snd_a es X sc _ O h.2)) fun _ => rfl
    · cases h
  | .u1 f a, X, sc, e, O, h => by
    have ih := fun e => snd_e a X sc e O
    cases f with
    | neg =>
      unfold chk at h
      split at h
      · exact both_of (snd_neg O (ih _ h).1) fun _ => rfl
      · cases h
    | rev =>
      unfold chk at h
      split at h
      · simp only [Bool.and_eq_true, decide_eq_true_eq] at h
        obtain ⟨h1, rfl⟩ := h
        exact both_of (snd_rev (ih _ h1).1) fun _ => rfl
      · cases h
    | isT T =>
      unfold chk at h
      split at h
      · simp only [Bool.and_eq_true, decide_eq_true_eq] at h
        obtain ⟨⟨⟨⟨⟨⟨rfl, h2⟩, h3⟩, h4⟩, rfl⟩, h6⟩, h7⟩ := h
        exact both_of (snd_isT O h2 h6 h7 (ih _ h3).1 h4) fun _ => rfl
      · cases h
    | _ => exact u1_plain O ih (by unfold chk at h; exact h)
  | .u2 f a b, X, sc, e, O, h => by
    have iha := fun e => snd_e a X sc e O
    have ihb := fun e => snd_e b X sc e O
    cases f with
    | join =>
      unfold chk at h
      split at h
      · simp only [Bool.and_eq_true, decide_eq_true_eq] at h
        obtain ⟨⟨⟨⟨⟨rfl, h2⟩, h3⟩, h4⟩, h5⟩, h6⟩ := h
        exact both_of (snd_join O h2 h6 (iha _ h3).1 (ihb _ h4).1 h5) fun _ => rfl
      · cases h
    | count => unfold chk at h; cases h
    | max =>
      unfold chk at h
      split at h
      · simp only [Bool.and_eq_true, decide_eq_true_eq] at h
        obtain ⟨⟨⟨⟨⟨rfl, h2⟩, h3⟩, h4⟩, h5⟩, h6⟩ := h
        exact both_of (snd_max O h2 (iha _ h3).1 (ihb _ h4).1 h5 h6) fun _ => rfl
      · cases h
    | min =>
      unfold chk at h
      split at h
      · simp only [Bool.and_eq_true, decide_eq_true_eq] at h
        obtain ⟨⟨⟨⟨⟨rfl, h2⟩, h3⟩, h4⟩, h5⟩, h6⟩ := h
        exact both_of (snd_min O h2 (iha _ h3).1 (ihb _ h4).1 h5 h6) fun _ => rfl
      · cases h
    | gcd =>
      unfold chk at h
      split at h
      · simp only [Bool.and_eq_true, decide_eq_true_eq] at h
        obtain ⟨⟨⟨⟨⟨⟨h0, rfl⟩, h2⟩, h3⟩, h4⟩, h5⟩, h6⟩ := h
        exact both_of (snd_gcd O (O.gcd h0) h2 (iha _ h3).1 (ihb _ h4).1 h5 h6) fun _ => rfl
      · cases h
  | .ix a b, X, sc, e, O, h => by
    unfold chk at h
    split at h
    · simp only [Bool.and_eq_true] at h
      exact both_of (snd_ix O (snd_e a X sc _ O h.1.1).1 (snd_e b X sc _ O h.1.2).1 h.2) fun _ => rfl
    · cases h
  | .sl a lo hi, X, sc, e, O, h => by
    have ihl := fun e => snd_e lo X sc e O
    have ihh := fun e => snd_e hi X sc e O
    have part : ∀ (x : Ex), (∀ e, chk g.N g.L x sc e = true → Both g X e x) → ∀ o, chkp g.N g.L x sc o = true → PO X o (tPa g x) := fun x ih o q => by
      by_cases hx : x = .nopart
      · subst hx
        unfold chkp at q
        simp only [Option.isNone_iff_eq_none] at q
        subst q
        exact snd_nopart
      · rw [chkp_ne hx] at q
        cases o with
        | none => cases q
        | some y => exact snd_part hx (ih y q).1
    unfold chk at h
    split at h
    · simp only [Bool.and_eq_true] at h
      exact both_of (snd_sl O (snd_e a X sc _ O h.1.1).1 (part lo ihl _ h.1.2) (part hi ihh _ h.2)) fun _ => rfl
    · cases h
  | .nopart, X, sc, e, O, h => by unfold chk at h; cases h
  | .lc own tg it c x, X, sc, e, O, h => by
    have ihc := fun (X : Cx) (sc : Scope) e => snd_e c X sc e
    unfold chk at h
    split at h
    · rename_i elt t i ifs scope pos
      simp only [Bool.and_eq_true] at h
      obtain ⟨⟨⟨⟨⟨h1, h2⟩, h3⟩, h4⟩, h5⟩, h6⟩ := h
      have ht : ∀ j ∈ tgv tg, j ∈ own := fun j hj => by
        have := List.all_eq_true.mp h2 j hj
        simpa using this
      have eo : (own.map fun j => (g.N.getD j "", j)).map (·.2) = own := by
        rw [List.map_map]
        exact List.map_id _
      have tests : ∀ (s : Shared) (H : Hp) (C : Addr) (cl : List (Str × Addr)) (fp : List Addr), PTs (X.blk s H scope (compEnvC scope cl C X.env) fp) ifs (tT g c) := fun s H C cl fp => by
        split at h5
        · split at h5
          · exact pts_yes
          · cases h5
        · exact pts_one (ihc _ _ _ (O.blk s H scope C cl fp) h5).2
        · cases h5
      have pl : PE X (.ListComp elt [⟨t, i, ifs, 0⟩] scope pos) (tLc (tI g it) (gT g tg) (tT g c) (tE g x) ((own.map fun j => (g.N.getD j "", j)).map (·.2))) :=
        pe_lc O.calm O.nd (snd_i it X sc t i O h3) (by rw [O.eN, O.sc]; exact blkOk_by h1) (fun s H C cl fp => snd_tg (O.blk s H scope C cl fp) (sto_blk s H scope C cl fp) tg t h4) tests (fun s H C cl fp => (snd_e x _ _ _ (O.blk s H scope C cl fp) h6).1) (chkI_fold h3)
      rw [eo] at pl
      exact both_of (PE.weak pl (lc_r O ht)) fun _ => rfl
    · cases h
  | .lc2 own own1 tg it c tg1 it1 c1 x, X, sc, e, O, h => by
    have ihc := fun (X : Cx) (sc : Scope) e => snd_e c X sc e
    have ihc1 := fun (X : Cx) (sc : Scope) e => snd_e c1 X sc e
    have ihi1 := fun (X : Cx) (sc : Scope) t e => snd_i it1 X sc t e
    unfold chk at h
    split at h
    · rename_i elt t i ifs t1 i1 ifs1 scope pos
      simp only [Bool.and_eq_true] at h
      obtain ⟨⟨⟨⟨⟨⟨⟨⟨⟨⟨h1, h2⟩, h3⟩, h4⟩, h5⟩, h6⟩, h7⟩, h8⟩, h9⟩, h10⟩, h11⟩ := h
      have ht : ∀ j ∈ tgv tg, j ∈ own := fun j hj => by
        have := List.all_eq_true.mp h2 j hj
        simpa using this
      have ht1 : ∀ j ∈ tgv tg1, j ∈ own1 := fun j hj => by
        have := List.all_eq_true.mp h3 j hj
        simpa using this
      have hs : ∀ j ∈ own1, j ∈ own := fun j hj => by
        have := List.all_eq_true.mp h4 j hj
        simpa using this
      have eo : (own.map fun j => (g.N.getD j "", j)).map (·.2) = own := by
        rw [List.map_map]
        exact List.map_id _
      have tests : ∀ (s : Shared) (H : Hp) (C : Addr) (cl : List (Str × Addr)) (fp : List Addr), PTs (X.blk s H scope (compEnvC scope cl C X.env) fp) ifs (tT g c) := fun s H C cl fp => by
        split at h7
        · split at h7
          · exact pts_yes
          · cases h7
        · exact pts_one (ihc _ _ _ (O.blk s H scope C cl fp) h7).2
        · cases h7
      have tests1 : ∀ (s : Shared) (H : Hp) (C : Addr) (cl : List (Str × Addr)) (fp : List Addr), PTs (X.blk s H scope (compEnvC scope cl C X.env) fp) ifs1 (tT g c1) := fun s H C cl fp => by
        split at h10
        · split at h10
          · exact pts_yes
          · cases h10
        · exact pts_one (ihc1 _ _ _ (O.blk s H scope C cl fp) h10).2
        · cases h10
      have pl : PE X (.ListComp elt [⟨t, i, ifs, 0⟩, ⟨t1, i1, ifs1, 0⟩] scope pos) (tLc2 (tI g it) (gT g tg) (tT g c) (tI g it1) (gT g tg1) (tT g c1) (tE g x) ((own.map fun j => (g.N.getD j "", j)).map (·.2)) own1) :=
        pe_lc2 O.calm O.nd (snd_i it X sc t i O h5) (by rw [O.eN, O.sc]; exact blkOk_by h1) (by rw [eo]; exact hs) (fun s H C cl fp => snd_tg (O.blk s H scope C cl fp) (sto_blk s H scope C cl fp) tg t h6) tests (fun s H C cl fp => ihi1 _ _ t1 i1 (O.blk s H scope C cl fp) h8) (fun s H C cl fp => snd_tg (O.blk s H scope C cl fp) (sto_blk s H scope C cl fp) tg1 t1 h9) tests1 (fun s H C cl fp => (snd_e x _ _ _ (O.blk s H scope C cl fp) h11).1) (chkI_fold h5) (fun env => chkI_fold h8)
      rw [eo] at pl
      exact both_of (PE.weak pl (lc2_r ht ht1 hs)) fun _ => rfl
    · cases h
  | .lc3 _ _ _ _ _ _ _ _ _ _ _ _ _, X, sc, e, O, h => by unfold chk at h; cases h
  | .dsel ks es k, X, sc, e, O, h => by
    unfold chk at h
    split at h
    · simp only [Bool.and_eq_true, decide_eq_true_eq] at h
      obtain ⟨⟨⟨⟨⟨⟨⟨h1, h2⟩, h3⟩, h4⟩, h5⟩, h6⟩, h7⟩, h8⟩ := h
      exact both_of (snd_dsel O (snd_p es ks X sc _ _ _ O h2 h3 h5) h3 h4 h5 (fun z => by rw [z] at h7; cases h7) h6 (snd_e k X sc _ O h1).1 (noSl_of h8)) fun _ => rfl
    · cases h
theorem snd_p : ∀ (es : Exs) (ks : List Str) (X : Cx) (sc : Scope) (keys : List (Option Expr)) (vals : List Expr) (pos : Pos), XOk g X sc → chks g.N g.L es sc vals = true → keysOk ks keys = true → ks.length = es.len → PPs X pos keys vals (dTrs g ks es)
  | .nil, ks, X, sc, keys, vals, pos, O, h1, h2, h3 => by
    simp only [chks, List.isEmpty_iff] at h1
    subst h1
    cases ks with
    | nil => cases keys with
      | nil => exact pps_nil
      | cons a b => simp [keysOk] at h2
    | cons a b => simp [Exs.len] at h3
  | .cons e es, ks, X, sc, keys, vals, pos, O, h1, h2, h3 => by
    cases vals with
    | nil => simp [chks] at h1
    | cons y r =>
      simp only [chks, Bool.and_eq_true] at h1
      cases ks with
      | nil => simp [Exs.len] at h3
      | cons k ks =>
        obtain ⟨a, b, r', rfl, h4⟩ := keys_cons h2
        exact pps_cons (pe_lit pe_str (fun F => .str k) fun s => by simp only [ev]) (snd_e e X sc y O h1.1.1).1 (snd_p es ks X sc r' r pos O h1.1.2 h4 (by simpa [Exs.len] using h3))
theorem snd_a : ∀ (es : Exs) (X : Cx) (sc : Scope) (l : List Expr), XOk g X sc → chks g.N g.L es sc l = true → PA X l (tAs g es)
  | .nil, X, sc, l, O, h => by
    simp only [chks, List.isEmpty_iff] at h
    subst h
    exact snd_nil
  | .cons a as, X, sc, l, O, h => by
    cases l with
    | nil => simp [chks] at h
    | cons y r =>
      simp only [chks, Bool.and_eq_true] at h
      exact snd_cons (snd_e a X sc y O h.1.1).1 (snd_a as X sc r O h.1.2) h.2
theorem snd_i : ∀ (it : It) (X : Cx) (sc : Scope) (t e : Expr), XOk g X sc → chkI g.N g.L it sc t e = true → PI X t e (tI g it)
  | .seq a, X, sc, t, e, O, h => by
    unfold chkI at h
    simp only [Bool.and_eq_true] at h
    exact snd_seq O (snd_e a X sc e O h.1).1
  | .rng1 a, X, sc, t, e, O, h => by
    unfold chkI at h
    split at h
    · simp only [Bool.and_eq_true, decide_eq_true_eq] at h
      obtain ⟨⟨⟨rfl, h2⟩, h3⟩, h4⟩ := h
      exact snd_rng1 O h2 (snd_e a X sc _ O h3).1 h4
    · cases h
  | .rng2 a b, X, sc, t, e, O, h => by
    unfold chkI at h
    split at h
    · simp only [Bool.and_eq_true, decide_eq_true_eq] at h
      obtain ⟨⟨⟨⟨⟨rfl, h2⟩, h3⟩, h4⟩, h5⟩, h6⟩ := h
      exact snd_rng2 O h2 (snd_e a X sc _ O h3).1 (snd_e b X sc _ O h4).1 h5 h6
    · cases h
  | .rng3 a b c, X, sc, t, e, O, h => by
    unfold chkI at h
    split at h
    · simp only [Bool.and_eq_true, decide_eq_true_eq] at h
      obtain ⟨⟨⟨⟨⟨⟨⟨rfl, h2⟩, h3⟩, h4⟩, h5⟩, h6⟩, h7⟩, h8⟩ := h
      exact snd_rng3 O h2 (snd_e a X sc _ O h3).1 (snd_e b X sc _ O h4).1 (snd_e c X sc _ O h5).1 h6 h7 h8
    · cases h
  | .enum a, X, sc, t, e, O, h => by
    unfold chkI at h
    split at h
    · simp only [Bool.and_eq_true, decide_eq_true_eq] at h
      obtain ⟨⟨⟨rfl, h2⟩, h3⟩, h4⟩ := h
      exact snd_enum O h2 (snd_e a X sc _ O h3).1 h4
    · cases h
  | .zip a b, X, sc, t, e, O, h => by
    unfold chkI at h
    split at h
    · simp only [Bool.and_eq_true, decide_eq_true_eq] at h
      obtain ⟨⟨⟨⟨⟨rfl, h2⟩, h3⟩, h4⟩, h5⟩, h6⟩ := h
      exact snd_zip O h2 (snd_e a X sc _ O h3).1 (snd_e b X sc _ O h4).1 h5 h6
    · cases h
end
end
end Xp

/-! E12: statements. -/
namespace Xp
open PySem PySem.Spec PyProof.Rows L2
def isStar : Expr → Bool
  | .Starred .. => true
  | _ => false
/-- which names a tuple's stores are swapped at (none: not to be told) -/
def swp (ts vs : List Expr) (sc : Scope) : Option (Option (List Str)) :=
  if (!(ts.length == 2 || ts.length == 3) || vs.length != ts.length) = true then some none
  else if vs.any isStar = true then some none
  else
    let line := (ts.head?.map (·.pos.line)).getD 0
    let names := ts.filterMap fun
      | .Name id pos => if sc.names.lookup id == some .local && pos.line == line then some id else none
      | _ => none
    if (names.length != ts.length || names.eraseDups.length != names.length) = true then some none
    else if vs.all (foldedForSure 8) = true then some none
    else if vs.all (constantsAlone 8) = true then none else some (some names)
theorem swp_ok {env : Env} {sc : Scope} {ts vs : List Expr} {k k2 : Nat} {p p2 : Pos} {r : Option (List Str)} (hs : env.scope = sc) (hk : sc.kind = .function) (h : swp ts vs sc = some r) : swappedStores [.Tuple ts k p] (.Tuple vs k2 p2) env = pure r := by
  subst hs
  have hb : env.blockKind = .function := by unfold Env.blockKind; rw [hk]; rfl
  have hb2 : (env.blockKind != .function) = false := by rw [hb]; rfl
  unfold swp at h
  unfold swappedStores
  simp only [hb2, Bool.or_false]
  by_cases c1 : (!(ts.length == 2 || ts.length == 3) || vs.length != ts.length) = true
  · rw [if_pos c1] at h
    cases h
    rw [if_pos c1]
  · rw [if_neg c1] at h ⊢
    have e1 : vs.any isStar = vs.any (fun | .Starred .. => true | _ => false) := by
      congr 1
    rw [e1] at h
    split at h
    · rename_i c2
      cases h
      exact if_pos c2
    · rename_i c2
      refine Eq.trans (if_neg c2) ?_
      simp only at h
      split at h
      · rename_i c3
        cases h
        exact if_pos c3
      · rename_i c3
        refine Eq.trans (if_neg c3) ?_
        split at h
        · rename_i c4
          cases h
          exact if_pos c4
        · rename_i c4
          refine Eq.trans (if_neg c4) ?_
          split at h
          · cases h
          · rename_i c5
            cases h
            exact Eq.trans (if_neg c5) rfl
def isComp : Expr → Bool
  | .ListComp .. => true
  | .SetComp .. => true
  | .DictComp .. => true
  | _ => false
/-- the comprehension's list is stored within its frame -/
def swC (e : Expr) (t : Str) (tp : Pos) (sc : Scope) : Bool := match e with
  | .ListComp _ _ s pos => sc.names.lookup t == some .local && tp.line == pos.line && !(s.names.any fun (n, k) => n == t && (k == .local || k == .cell))
  | _ => false
section
variable (N : List Str) (L : Lk)
mutual
def chkS : St → Scope → Stmt → Bool
  | .asg (.v i) e, sc, x => (match x with
    | .Assign [t] v _ => (match t with
      | .Name y py => chkV N i sc t && chk N L e sc v && (!isComp v || (match e with | .lc .. => swC v y py sc && decide (sc.names.lookup y = some .local) | .lc2 .. => swC v y py sc && decide (sc.names.lookup y = some .local) | .lc3 .. => swC v y py sc && decide (sc.names.lookup y = some .local) | _ => false))
      | _ => false)
    | _ => false)
  | .asg tg e, sc, x => (match x with
    | .Assign [t] v _ => (match t with
      | .Tuple ts _ _ => chkT N tg sc t && chk N L e sc v && (match v with | .Tuple vs _ _ => decide (swp ts vs sc = some none) | _ => true)
      | _ => false)
    | _ => false)
  | .asgC i e, sc, x => (match x with
    | .Assign [t] v _ => (match t with
      | .Name y py => chkV N i sc t && chk N L e sc v && !isComp v
      | _ => false)
    | _ => false)
  | .par is es, sc, x => (match x with
    | .Assign [t] v _ => (match t, v with
      | .Tuple [.Name a pa, .Name b pb] _ _, .Tuple [u, w] _ _ => (match is with
        | [i, j] => decide (N[i]? = some a) && decide (N[j]? = some b) && decide (i ≠ j) && decide (sc.names.lookup a = some .local) && decide (sc.names.lookup b = some .local) && chks N L es sc [u, w] && decide (swp [.Name a pa, .Name b pb] [u, w] sc = some (some [a, b]))
        | _ => false)
      | .Tuple [.Name a pa, .Name b pb, .Name c pc] _ _, .Tuple [u, w, z] _ _ => (match is with
        | [i, j, l] => decide (N[i]? = some a) && decide (N[j]? = some b) && decide (N[l]? = some c) && decide (i ≠ j) && decide (i ≠ l) && decide (j ≠ l) && decide (sc.names.lookup a = some .local) && decide (sc.names.lookup b = some .local) && decide (sc.names.lookup c = some .local) &&
            chks N L es sc [u, w, z] && decide (swp [.Name a pa, .Name b pb, .Name c pc] [u, w, z] sc = some (some [a, b, c]))
        | _ => false)
      | _, _ => false)
    | _ => false)
  | .setv i k e, sc, x => (match x with
    | .Assign [.Subscript (.Name y _) kx _] v _ => okV N sc i y && chk N L k sc kx && notSlice kx && chk N L e sc v
    | _ => false)
  | .app i e, sc, x => (match x with
    | .Expr (.Call (.Attribute (.Name y _) n apos) [a] [] cpos) _ => okV N sc i y && decide (n = ("append" : Str)) && chk N L e sc a && notStar a && apos.endLine == cpos.line
    | _ => false)
  | .ins i k e, sc, x => (match x with
    | .Expr (.Call (.Attribute (.Name y _) n apos) [b, a] [] cpos) _ => okV N sc i y && decide (n = ("insert" : Str)) && chk N L k sc b && chk N L e sc a && notStar b && notStar a && apos.endLine == cpos.line
    | _ => false)
  | .exp e, sc, x => (match x with
    | .Expr v _ => chk N L e sc v && !isComp v
    | _ => false)
  | .ret e, sc, x => (match x with
    | .Return (some v) _ => chk N L e sc v
    | _ => false)
  | .retN, _, x => (match x with
    | .Return none _ => true
    | _ => false)
  | .ite c a b, sc, x => (match x with
    | .If t y z _ => chk N L c sc t && chkSs a sc y && chkSs b sc z
    | _ => false)
  | .for_ tg it b, sc, x => (match x with
    | .For t i y [] _ => chkT N tg sc t && chkI N L it sc t i && chkSs b sc y
    | _ => false)
  | .whl c b, sc, x => (match x with
    | .While t y [] _ => chk N L c sc t && chkSs b sc y
    | _ => false)
  | .brk, _, x => (match x with | .Break _ => true | _ => false)
  | .cnt, _, x => (match x with | .Continue _ => true | _ => false)
  | .pass, _, x => (match x with | .Pass _ => true | _ => false)
  | .never, _, _ => true
def chkSs : Sts → Scope → List Stmt → Bool
  | .nil, _, l => l.isEmpty
  | .cons a r, sc, l => (match l with
    | x :: xs => chkS a sc x && chkSs r sc xs
    | [] => false)
end
end
/-! ### readings -/
def Fin0 (g : Gd) (E : Ent) (F : Hp) (D : Ends) (fl : Fl) (s' : S) : Prop := ∀ σ' F' ι' H', Stt g.K g.fa E F' ι' s' σ' H' → Same F F' → (match fl with
  | .nx => D.nx σ' H'
  | .bk => D.bk σ' H'
  | .ct => D.ct σ' H'
  | .rt r => ∀ v, RR g.K g.fa F' ι' H' v r → Fre E s' σ' v r → (∀ xs, r ≠ .bor xs) → D.rt v H')
def tSt (g : Gd) (x : St) : TS := fun D σ H => ∃ E F ι s, Stt g.K g.fa E F ι s σ H ∧ ∃ fl s', run g.cal g.G g.wf x s = some (fl, s') ∧ Fin0 g E F D fl s'
def tSs (g : Gd) (x : Sts) : TS := fun D σ H => ∃ E F ι s, Stt g.K g.fa E F ι s σ H ∧ ∃ fl s', runs g.cal g.G g.wf x s = some (fl, s') ∧ Fin0 g E F D fl s'
section
variable {g : Gd} {X : Cx} {sc : Scope}
theorem PS.weak {st : Stmt} {t t2 : TS} (h : PS X st t) (w : ∀ D σ H, t2 D σ H → t D σ H) : PS X st t2 := ⟨fun pins s σ H D I q => h.run pins s σ H D I (w D σ H q)⟩
theorem PSs.weak {st : List Stmt} {t t2 : TS} (h : PSs X st t) (w : ∀ D σ H, t2 D σ H → t D σ H) : PSs X st t2 := ⟨fun pins s σ H D I q => h.run pins s σ H D I (w D σ H q)⟩
theorem Fin0.more {E : Ent} {F F1 : Hp} {D : Ends} {fl : Fl} {s' : S} (h : Fin0 g E F D fl s') (e : Same F F1) : Fin0 g E F1 D fl s' := fun σ' F' ι' H' S' e' => h σ' F' ι' H' S' (e.trans e')
theorem never_of (O : XOk g X sc) : PassesOwn (model X.prog X.w) X.A X.env X.xe := by
  rw [O.xe]
  exact PassesOwn.never

theorem sw_plain {v : Expr} {t : Option Expr} {l : Nat} {env : Env} (h : isComp v = false) : swapsWith v t l env = pure false := by
  cases v <;> first | rfl | cases h
theorem sw_tup {v : Expr} {ts : List Expr} {k : Nat} {p : Pos} {l : Nat} {env : Env} : swapsWith v (some (.Tuple ts k p)) l env = pure false := by
  cases v <;> rfl
theorem swC_ok {elt : Expr} {gs : List Comprehension} {scope : Scope} {pos py : Pos} {y : Str} {l : Nat} {env : Env} (hk : env.scope.kind = .function) (h : swC (.ListComp elt gs scope pos) y py env.scope = true) : swapsWith (.ListComp elt gs scope pos) (some (.Name y py)) l env = pure true := by
  unfold swC at h
  simp only [Bool.and_eq_true, Bool.not_eq_true', beq_iff_eq] at h
  exact sw_true hk h.1.1 (by rw [h.1.2]; exact beq_self_eq_true _) h.2
/-- a slot is given any value -/
theorem Stt.setR {K : PySem.W.Frag} {fa : Nat → Option Addr} {E : Ent} {F H : Hp} {ι : List Addr} {s : S} {σ : L2.St} (S0 : Stt K fa E F ι s σ H) {v : V} {r : R} {i : Nat} (q : RR K fa F ι H v r) (f : Fre E s σ v r) (nb : ∀ xs, r ≠ .bor xs) (il : i < s.sl.length) :
    Stt K fa E F ι ⟨s.sl.set i (some r), s.st⟩ (σ.set i (some v)) H := by
  cases q with
  | w q => exact S0.setW q il
  | bor o => exact absurd rfl (nb _)
  | @own a xs o =>
    obtain ⟨f1, f2, f3⟩ := f xs a rfl rfl
    have iσ : i < σ.length := by rw [S0.len]; exact il
    have ne : ∀ j (r : R), (s.sl.set i (some (.own xs)))[j]? = some (some r) → (j = i ∧ r = .own xs) ∨ (j ≠ i ∧ s.sl[j]? = some (some r)) := fun j r hj => by
      by_cases e : i = j
      · subst e
        rw [List.getElem?_set_self il] at hj
        cases hj
        exact .inl ⟨rfl, rfl⟩
      · rw [List.getElem?_set_ne e] at hj
        exact .inr ⟨fun z => e z.symm, hj⟩
    have gi : (σ.set i (some (V.ref a)))[i]? = some (some (.ref a)) := List.getElem?_set_self iσ
    have gn : ∀ j, j ≠ i → (σ.set i (some (V.ref a)))[j]? = σ[j]? := fun j n => List.getElem?_set_ne (Ne.symm n)
    refine { sub := S0.sub, step := S0.step, nofz := S0.nofz, len := by simp [S0.len], slot := fun j r hj => ?_, new := fun j ys b o' hb => ?_, dist := fun j l ys zs hjl o1 o2 => ?_, st := S0.st, nfz := S0.nfz, stl := S0.stl, nd := S0.nd, res := fun b hb => ?_ }
    · rcases ne j r hj with ⟨rfl, rfl⟩ | ⟨n1, n2⟩
      · exact ⟨_, gi, .own o, nb⟩
      · obtain ⟨u, q1, q2⟩ := S0.slot j r n2
        exact ⟨u, by rw [gn j n1]; exact q1, q2⟩
    · rcases ne j _ o' with ⟨rfl, _⟩ | ⟨n1, n2⟩
      · rw [gi] at hb
        cases hb
        exact f1
      · rw [gn j n1] at hb
        exact S0.new j ys b n2 hb
    · rcases ne j _ o1 with ⟨rfl, _⟩ | ⟨n1, n2⟩
      · rcases ne l _ o2 with ⟨z, _⟩ | ⟨n3, n4⟩
        · exact absurd z.symm hjl
        · rw [gi, gn l n3]
          exact fun z => f2 l zs n4 z.symm
      · rcases ne l _ o2 with ⟨rfl, _⟩ | ⟨n3, n4⟩
        · rw [gi, gn j n1]
          exact f2 j ys n2
        · rw [gn j n1, gn l n3]
          exact S0.dist j l ys zs hjl n2 n4
    · obtain ⟨h1, h2, h3, h4⟩ := S0.res b hb
      refine ⟨h1, h2, h3, fun j ys o' => ?_⟩
      rcases ne j _ o' with ⟨rfl, _⟩ | ⟨n1, n2⟩
      · rw [gi]
        intro z
        cases z
        exact f3 hb
      · rw [gn j n1]
        exact h4 j ys n2
/-- an own list becomes a shared one -/
theorem Stt.share {K : PySem.W.Frag} {fa : Nat → Option Addr} {E : Ent} {F H : Hp} {ι : List Addr} {s : S} {σ : L2.St} (S0 : Stt K fa E F ι s σ H) {a : Addr} {xs : List PyData} (o : Own K F ι H a xs) (f : Fre E s σ (.ref a) (.own xs)) :
    Stt K fa E F (ι ++ [a]) ⟨s.sl, s.st ++ [xs]⟩ σ H ∧ RW K fa F (ι ++ [a]) (.ref a) (.cell s.st.length) := by
  obtain ⟨f1, f2, f3⟩ := f xs a rfl rfl
  obtain ⟨vs, e1, e2⟩ := o.ex
  have na : ∀ i ys, OwnAt s i ys → ∀ b, σ[i]? = some (some (.ref b)) → b ≠ a := fun i ys o' b hb z => by
    subst z
    exact f2 i ys o' hb
  obtain ⟨m, em, nm⟩ := S0.step.pre
  refine ⟨{ sub := S0.sub, step := ⟨S0.step.fz, ⟨m ++ [a], by rw [em, List.append_assoc], fun b hb => ?_⟩, S0.step.ext, S0.step.dom, fun _ _ _ _ => trivial⟩, nofz := S0.nofz, len := S0.len, slot := fun j r hj => ?_, new := S0.new, dist := S0.dist, st := fun n ys hn => ?_, nfz := fun b hb => ?_,
            stl := by simp [S0.stl], nd := ?_, res := fun b hb => ?_ }, .cell ?_⟩
  · rcases List.mem_append.mp hb with z | z
    · exact nm b z
    · rw [List.mem_singleton.mp z]
      exact f1
  · obtain ⟨u, q1, q2, q3⟩ := S0.slot j r hj
    refine ⟨u, q1, ?_, q3⟩
    have up : ∀ {n : Nat} {b : Addr}, ι[n]? = some b → (ι ++ [a])[n]? = some b := fun {n b} z => by
      rw [List.getElem?_append_left (List.getElem?_eq_some_iff.mp z).1]
      exact z
    cases q2 with
    | w q => cases q with
      | d q => exact .w (.d q)
      | cell q => exact .w (.cell (up q))
      | fn q => exact .w (.fn q)
      | known q => exact .w (.known q)
    | @own b ys o' => exact .own ⟨o'.ex, o'.nf, fun z => by
        rcases List.mem_append.mp z with z | z
        · exact o'.ni z
        · exact na j ys hj b q1 (List.mem_singleton.mp z)⟩
    | bor o' => exact absurd rfl (q3 _)
  · by_cases c : n < s.st.length
    · rw [List.getElem?_append_left c] at hn
      obtain ⟨b, us, q1, q2⟩ := S0.st n ys hn
      refine ⟨b, us, ?_, q2⟩
      rw [List.getElem?_append_left (by rw [← S0.stl]; exact c)]
      exact q1
    · have hn' := (List.getElem?_eq_some_iff.mp hn).1
      rw [List.length_append, List.length_singleton] at hn'
      have en : n = s.st.length := by omega
      subst en
      rw [List.getElem?_append_right (Nat.le_refl _), Nat.sub_self] at hn
      cases hn
      refine ⟨a, vs, ?_, e1, e2⟩
      rw [S0.stl, List.getElem?_append_right (Nat.le_refl _), Nat.sub_self]
      rfl
  · rcases List.mem_append.mp hb with z | z
    · exact S0.nfz b z
    · rw [List.mem_singleton.mp z]
      exact ⟨o.nf, by rw [e1]; exact (fun z => by cases z)⟩
  · rw [List.nodup_append]
    refine ⟨S0.nd, by simp, fun b hb c hc => ?_⟩
    rw [List.mem_singleton.mp hc]
    rintro rfl
    exact o.ni hb
  · obtain ⟨h1, h2, h3, h4⟩ := S0.res b hb
    refine ⟨h1, h2, fun z => ?_, h4⟩
    rcases List.mem_append.mp z with z | z
    · exact h3 z
    · rw [List.mem_singleton.mp z] at hb
      exact f3 hb
  · rw [S0.stl, List.getElem?_append_right (Nat.le_refl _), Nat.sub_self]
    rfl
/-- an own list in a slot is changed -/
theorem Stt.chg {K : PySem.W.Frag} {fa : Nat → Option Addr} {E : Ent} {F H : Hp} {ι : List Addr} {s : S} {σ : L2.St} (S0 : Stt K fa E F ι s σ H) {i : Nat} {xs ys : List PyData} {a : Addr} {vs : List V} (h : OwnAt s i xs) (ha : σ[i]? = some (some (.ref a))) (q : DqAll K F vs ys) :
    Stt K fa E F ι ⟨s.sl.set i (some (.own ys)), s.st⟩ σ (upd H a (.lst vs)) := by
  have il : i < s.sl.length := (List.getElem?_eq_some_iff.mp h).1
  obtain ⟨u, q1, q2, q3⟩ := S0.slot i _ h
  rw [ha] at q1
  cases q1
  cases q2 with
  | own o =>
    have ea := S0.new i xs a h ha
    have ne : ∀ j (r : R), (s.sl.set i (some (.own ys)))[j]? = some (some r) → (j = i ∧ r = .own ys) ∨ (j ≠ i ∧ s.sl[j]? = some (some r)) := fun j r hj => by
      by_cases e : i = j
      · subst e
        rw [List.getElem?_set_self il] at hj
        cases hj
        exact .inl ⟨rfl, rfl⟩
      · rw [List.getElem?_set_ne e] at hj
        exact .inr ⟨fun z => e z.symm, hj⟩
    have nf := o.nf
    have ni := o.ni
    refine { sub := fun b x e => by rw [upd_ne (ne_of_none e nf)]; exact S0.sub b x e, step := ⟨S0.step.fz, S0.step.pre, fun b x e n => by rw [upd_ne (ne_of_none e ea)]; exact S0.step.ext b x e n, fun b e => ?_, fun _ _ _ _ => trivial⟩, nofz := S0.nofz, len := by simp [S0.len],
             slot := fun j r hj => ?_, new := fun j zs b o' hb => ?_, dist := fun j l zs ws hjl o1 o2 => ?_, st := fun n zs hn => ?_, nfz := fun b hb => ?_, stl := S0.stl, nd := S0.nd, res := fun b hb => ?_ }
    · by_cases z : b = a
      · rw [z]; exact ea
      · rw [upd_ne z] at e
        exact S0.step.dom b e
    · rcases ne j r hj with ⟨rfl, rfl⟩ | ⟨n1, n2⟩
      · exact ⟨_, ha, .own ⟨⟨vs, upd_same, q⟩, nf, ni⟩, fun _ z => by cases z⟩
      · obtain ⟨w, p1, p2, p3⟩ := S0.slot j r n2
        refine ⟨w, p1, ?_, p3⟩
        cases p2 with
        | w p => exact .w p
        | @own b zs o' =>
          obtain ⟨us, g1, g2⟩ := o'.ex
          refine .own ⟨⟨us, ?_, g2⟩, o'.nf, o'.ni⟩
          rw [upd_ne]
          · exact g1
          · rintro rfl
            exact S0.dist j i zs xs n1 n2 h (p1.trans ha.symm)
        | bor o' => exact absurd rfl (p3 _)
    · rcases ne j _ o' with ⟨rfl, _⟩ | ⟨n1, n2⟩
      · rw [ha] at hb
        cases hb
        exact ea
      · exact S0.new j zs b n2 hb
    · rcases ne j _ o1 with ⟨rfl, _⟩ | ⟨n1, n2⟩
      · rcases ne l _ o2 with ⟨z, _⟩ | ⟨n3, n4⟩
        · exact absurd z.symm hjl
        · exact S0.dist _ _ xs ws hjl h n4
      · rcases ne l _ o2 with ⟨rfl, _⟩ | ⟨n3, n4⟩
        · exact S0.dist _ _ zs xs hjl n2 h
        · exact S0.dist j l zs ws hjl n2 n4
    · obtain ⟨b, us, g1, g2, g3⟩ := S0.st n zs hn
      refine ⟨b, us, g1, ?_, g3⟩
      rw [upd_ne]
      · exact g2
      · rintro rfl
        exact ni (List.mem_of_getElem? g1)
    · obtain ⟨h1, h2⟩ := S0.nfz b hb
      refine ⟨h1, ?_⟩
      rw [upd_ne]
      · exact h2
      · rintro rfl
        exact ni hb
    · obtain ⟨h1, h2, h3, h4⟩ := S0.res b hb
      have hba : b ≠ a := by
        rintro rfl
        exact h4 i xs h ha
      refine ⟨h1, by rw [upd_ne hba]; exact h2, h3, fun j zs o' => ?_⟩
      rcases ne j _ o' with ⟨rfl, _⟩ | ⟨n1, n2⟩
      · rw [ha]
        intro z
        cases z
        exact hba rfl
      · exact h4 j zs n2
/-- a shared list is changed -/
theorem Stt.chgC {K : PySem.W.Frag} {fa : Nat → Option Addr} {E : Ent} {F H : Hp} {ι : List Addr} {s : S} {σ : L2.St} (S0 : Stt K fa E F ι s σ H) {n : Nat} {ys : List PyData} {a : Addr} {vs : List V} (ha : ι[n]? = some a) (q : DqAll K F vs ys) :
    Stt K fa E F ι ⟨s.sl, s.st.set n ys⟩ σ (upd H a (.lst vs)) := by
  have hm : a ∈ ι := List.mem_of_getElem? ha
  obtain ⟨nf, hn⟩ := S0.nfz a hm
  have il : n < s.st.length := by rw [S0.stl]; exact (List.getElem?_eq_some_iff.mp ha).1
  refine { sub := fun b x e => by rw [upd_ne (ne_of_none e nf)]; exact S0.sub b x e, step := ⟨S0.step.fz, S0.step.pre, fun b x e z => ?_, fun b e => ?_, fun _ _ _ _ => trivial⟩, nofz := S0.nofz, len := S0.len,
           slot := fun j r hj => ?_, new := S0.new, dist := S0.dist, st := fun m zs hm' => ?_, nfz := fun b hb => ?_, stl := by simp [S0.stl], nd := S0.nd, res := fun b hb => ?_ }
  · have hba : b ≠ a := by
      rintro rfl
      rcases S0.step.imem hm with y | y
      · exact z y
      · rw [e] at y; cases y
    rw [upd_ne hba]
    exact S0.step.ext b x e z
  · by_cases z : b = a
    · rw [z, upd_same] at e
      cases e
    · rw [upd_ne z] at e
      exact S0.step.dom b e
  · obtain ⟨w, p1, p2, p3⟩ := S0.slot j r hj
    refine ⟨w, p1, ?_, p3⟩
    cases p2 with
    | w p => exact .w p
    | @own b zs o' =>
      obtain ⟨us, g1, g2⟩ := o'.ex
      refine .own ⟨⟨us, ?_, g2⟩, o'.nf, o'.ni⟩
      rw [upd_ne]
      · exact g1
      · rintro rfl
        exact o'.ni hm
    | bor o' => exact absurd rfl (p3 _)
  · by_cases c : n = m
    · subst c
      rw [List.getElem?_set_self il] at hm'
      cases hm'
      exact ⟨a, vs, ha, upd_same, q⟩
    · rw [List.getElem?_set_ne c] at hm'
      obtain ⟨b, us, g1, g2, g3⟩ := S0.st m zs hm'
      refine ⟨b, us, g1, ?_, g3⟩
      rw [upd_ne]
      · exact g2
      · rintro rfl
        obtain ⟨h1, e1⟩ := List.getElem?_eq_some_iff.mp ha
        obtain ⟨h2, e2⟩ := List.getElem?_eq_some_iff.mp g1
        exact c ((List.getElem_inj S0.nd).mp (e1.trans e2.symm))
  · obtain ⟨h1, h2⟩ := S0.nfz b hb
    refine ⟨h1, ?_⟩
    by_cases z : b = a
    · rw [z, upd_same]
      exact fun z => by cases z
    · rw [upd_ne z]
      exact h2
  · obtain ⟨h1, h2, h3, h4⟩ := S0.res b hb
    have hba : b ≠ a := by
      rintro rfl
      exact h3 hm
    exact ⟨h1, by rw [upd_ne hba]; exact h2, h3, h4⟩
end
end Xp

/-! E13: every statement of the small language. -/
namespace Xp
open PySem PySem.Spec PyProof.Rows L2
section
variable {g : Gd} {X : Cx} {sc : Scope}
structure XS (g : Gd) (X : Cx) (sc : Scope) : Prop where
  ok : XOk g X sc
  sto : Sto X sc
  kind : X.env.scope.kind = .function
theorem Fin0.nxR {E : Ent} {F F1 H1 : Hp} {ι1 : List Addr} {D : Ends} {s' : S} {σ1 : L2.St} (h : Fin0 g E F D .nx s') (S1 : Stt g.K g.fa E F1 ι1 s' σ1 H1) (e : Same F F1) : D.nx σ1 H1 := h σ1 F1 ι1 H1 S1 e
/-- name = e, the walked part -/
theorem asgv_r {i : Nat} {e : Ex} : ∀ D σ H, tSt g (.asg (.v i) e) D σ H → tE g e σ H (fun x H1 => D.nx (σ.set i (some x)) H1) := by
  intro D σ H ⟨E, F, ι, s, S0, fl, s', h, fin⟩
  simp only [run] at h
  obtain ⟨r, s1, e1, h2⟩ := bd_some h
  refine tE.go S0 e1 fun v F1 ι1 H1 S1 st1 rr fr => ?_
  split at h2
  · cases h2
  · rename_i nb
    split at h2
    · rename_i il
      cases h2
      exact fin _ F1 ι1 H1 (S1.setR rr fr (fun xs z => nb xs z) il) st1.fz
    · cases h2
theorem sole_of {t v : Expr} {l : Nat} {env : Env} (h : swapsWith v (some t) l env = pure false) : swapsWithSole [t] v l env = pure false := by
  exact h
theorem one_plain {y : Str} {py : Pos} {v : Expr} {env : Env} : swappedStores [.Name y py] v env = pure none := rfl
theorem sub_plain {a b : Expr} {py : Pos} {v : Expr} {env : Env} : swappedStores [.Subscript a b py] v env = pure none := rfl
theorem sub_sw {a b v : Expr} {py : Pos} {l : Nat} {env : Env} : swapsWithSole [.Subscript a b py] v l env = pure false := by
  cases v <;> rfl
theorem tup_plain {ts : List Expr} {v : Expr} {k : Nat} {p : Pos} {env : Env} (h : (match v with | .Tuple .. => false | _ => true) = true) : swappedStores [.Tuple ts k p] v env = pure none := by
  cases v <;> first | rfl | cases h
theorem asg1 {t : Expr} {env : Env} (h : notStar t = true) : (assignEach [t] env).map (·.2) = [assign t env] := by
  rw [asg_of h]; rfl
theorem snd_asgv (O : XS g X sc) {i : Nat} {e : Ex} {v : Expr} {y : Str} {py pos : Pos} (hv : chkV g.N i sc (.Name y py) = true) (he : PE X v (tE g e)) (hn : isComp v = false) : PS X (.Assign [.Name y py] v pos) (tSt g (.asg (.v i) e)) := by
  have pg : PG X (.Name y py) (gName i) := by
    unfold chkV at hv
    simp only [Bool.and_eq_true, decide_eq_true_eq] at hv
    obtain ⟨h1, h2⟩ := hv
    split at h2
    · rename_i c
      have c' := (O.sto y).1 c
      exact pg_name O.ok.nd (by rw [O.ok.eN]; exact h1) (.inl c') (.inr c')
    · rename_i c
      obtain ⟨c1, c2⟩ := (O.sto y).2 c
      exact pg_name O.ok.nd (by rw [O.ok.eN]; exact h1) (.inr c1) (.inl c2)
    · cases h2
  exact PS.weak (ps_asg he pg (sole_of (sw_plain hn)) one_plain (asg1 rfl)) fun D σ H h => asgv_r D σ H h
def gL (g : Gd) (tg : Tg) : TG := fun v σ H Q => ∃ E F ι s xs, Stt g.K g.fa E F ι s σ H ∧ Dq g.K F v (.list xs) ∧ ∃ l, bindT tg (.tuple xs) s.sl = some l ∧ ∀ σ', Stt g.K g.fa E F ι ⟨l, s.st⟩ σ' H → (∀ ws, (∀ i ∈ tgv tg, i ∈ ws) → L2.wipe σ' ws = L2.wipe σ ws) → Q σ' H
theorem PG.or {e : Expr} {t u : TG} (h : PG X e t) (l : PG X e u) : PG X e (fun v σ H Q => t v σ H Q ∨ u v σ H Q) := ⟨fun pins s σ H v w Q I r q => by
  rcases q with q | q
  · exact h.run pins s σ H v w Q I r q
  · exact l.run pins s σ H v w Q I r q⟩
theorem tg_ofL (O : XOk g X sc) {sc0 : Scope} {tg : Tg} {es : List Expr} {k0 : Nat} {pos : Pos} (h : chkTs g.N tg sc0 es = true) (ih : PGs X es (gTs g tg)) : PG X (.Tuple es k0 pos) (gL g tg) := by
  obtain ⟨h1, h2⟩ := asg_plain (sc := sc0) tg es (env := X.env) h
  refine PG.weak (pg_lst O.calm ih rfl h2) fun v σ H Q ⟨E, F, ι, s, xs, S0, hd, l, hb, k⟩ => ?_
  cases hd with
  | lst q r => exact ⟨_, _, rfl, SqL.of (S0.sub _ _ q), by rw [h1, dpa_len r]; exact bindT_tup tg es h hb, E, F, ι, s, xs, S0, r, l, hb, k⟩
theorem asgt_r {tg : Tg} {e : Ex} (hne : ∀ i, tg ≠ .v i) : ∀ D σ H, tSt g (.asg tg e) D σ H → tAsg (tE g e) (fun v σ H Q => gT g tg v σ H Q ∨ gL g tg v σ H Q) D σ H := by
  intro D σ H ⟨E, F, ι, s, S0, fl, s', h, fin⟩
  have h' : bd (ev g.cal g.G e s) (fun r s1 => bd (on r.fz s1) fun w s1 => (match w with
    | .d (.list xs) => bd (on (bindT tg (.tuple xs) s1.sl) s1) fun l s1 => some (Fl.nx, (⟨l, s1.st⟩ : S))
    | .d x => bd (on (bindT tg x s1.sl) s1) fun l s1 => some (Fl.nx, (⟨l, s1.st⟩ : S))
    | _ => none)) = some (fl, s') := by
    cases tg with
    | v i => exact absurd rfl (hne i)
    | nil => simp only [run] at h; exact h
    | cons a b => simp only [run] at h; exact h
  obtain ⟨r, s1, e1, h2⟩ := bd_some h'
  obtain ⟨w, s2, e2, h3⟩ := bd_some h2
  obtain ⟨e3, e9⟩ := on_some e2
  cases e9
  refine tE.go S0 e1 fun v F1 ι1 H1 S1 st1 rr fr => ?_
  obtain ⟨F2, S2, st2, q⟩ := S1.froze rr fr e3
  split at h3
  · obtain ⟨l, s3, e4, h4⟩ := bd_some h3
    obtain ⟨e5, e9⟩ := on_some e4
    cases e9
    cases h4
    cases q with
    | d q => exact .inr ⟨E, F2, ι1, _, _, S2, q, l, e5, fun σ' S3 _ => fin _ F2 ι1 H1 S3 (st1.fz.trans st2.fz)⟩
  · obtain ⟨l, s3, e4, h4⟩ := bd_some h3
    obtain ⟨e5, e9⟩ := on_some e4
    cases e9
    cases h4
    cases q with
    | d q => exact .inl ⟨E, F2, ι1, _, _, S2, q, l, e5, fun σ' S3 _ => fin _ F2 ι1 H1 S3 (st1.fz.trans st2.fz)⟩
  · cases h3
theorem snd_asgt (O : XS g X sc) {tg : Tg} {e : Ex} {v : Expr} {ts : List Expr} {k : Nat} {py pos : Pos} (hne : ∀ i, tg ≠ .v i) (hv : chkT g.N tg sc (.Tuple ts k py) = true) (he : PE X v (tE g e)) (hw : swappedStores [.Tuple ts k py] v X.env = pure none) :
    PS X (.Assign [.Tuple ts k py] v pos) (tSt g (.asg tg e)) := by
  have hc : chkTs g.N tg sc ts = true := by
    cases tg with
    | v i => exact absurd rfl (hne i)
    | nil => exact hv
    | cons a b => exact hv
  exact PS.weak (ps_asg he (PG.or (snd_tg O.ok O.sto tg _ hv) (tg_ofL O.ok hc (snd_tgs O.ok O.sto tg ts hc))) (sole_of sw_tup) hw (asg1 rfl)) fun D σ H h => asgt_r hne D σ H h
theorem snd_asgC (O : XS g X sc) {i : Nat} {e : Ex} {v : Expr} {y : Str} {py pos : Pos} (hv : chkV g.N i sc (.Name y py) = true) (he : PE X v (tE g e)) (hn : isComp v = false) : PS X (.Assign [.Name y py] v pos) (tSt g (.asgC i e)) := by
  have pg : PG X (.Name y py) (gName i) := by
    unfold chkV at hv
    simp only [Bool.and_eq_true, decide_eq_true_eq] at hv
    obtain ⟨h1, h2⟩ := hv
    split at h2
    · rename_i c
      have c' := (O.sto y).1 c
      exact pg_name O.ok.nd (by rw [O.ok.eN]; exact h1) (.inl c') (.inr c')
    · rename_i c
      obtain ⟨c1, c2⟩ := (O.sto y).2 c
      exact pg_name O.ok.nd (by rw [O.ok.eN]; exact h1) (.inr c1) (.inl c2)
    · cases h2
  refine PS.weak (ps_asg he pg (sole_of (sw_plain hn)) one_plain (asg1 rfl)) fun D σ H ⟨E, F, ι, s, S0, fl, s', h, fin⟩ => ?_
  simp only [run] at h
  obtain ⟨r, s1, e1, h2⟩ := bd_some h
  refine tE.go S0 e1 fun v F1 ι1 H1 S1 st1 rr fr => ?_
  split at h2
  · rename_i xs
    split at h2
    · rename_i il
      cases h2
      cases rr with
      | own o =>
        obtain ⟨S2, q2⟩ := S1.share o fr
        exact fin _ F1 _ H1 (S2.setR (.w q2) fre_w (fun _ z => by cases z) il) st1.fz
    · cases h2
  · cases h2
theorem snd_par2 (O : XS g X sc) {i j : Nat} {x y : Str} {a b : Expr} {es : Exs} {px py pt pos pt2 : Pos} {kt k2 : Nat} (hi : g.N[i]? = some x) (hj : g.N[j]? = some y) (hij : i ≠ j) (hx : sc.names.lookup x = some .local) (hy : sc.names.lookup y = some .local)
    (ha : PA X [a, b] (tAs g es)) (hw : swp [.Name x px, .Name y py] [a, b] sc = some (some [x, y])) : PS X (.Assign [.Tuple [.Name x px, .Name y py] kt pt] (.Tuple [a, b] k2 pt2) pos) (tSt g (.par [i, j] es)) := by
  refine PS.weak (ps_par O.ok.calm O.ok.nd (by rw [O.ok.eN]; exact hi) (by rw [O.ok.eN]; exact hj) hij (by rw [O.ok.sc]; exact hx) (by rw [O.ok.sc]; exact hy) ha (swp_ok O.ok.sc (by rw [← O.ok.sc]; exact O.kind) hw) (sole_of sw_tup)) fun D σ H ⟨E, F, ι, s, S0, fl, s', h, fin⟩ => ?_
  simp only [run] at h
  obtain ⟨ws, s1, e1, h2⟩ := bd_some h
  obtain ⟨l, s2, e2, h3⟩ := bd_some h2
  obtain ⟨e3, e9⟩ := on_some e2
  cases e9
  cases h3
  refine ⟨E, F, ι, s, S0, ws, s1, e1, fun vs F1 ι1 H1 S1 st1 q => ?_⟩
  cases q with
  | nil => simp only [setAll] at e3; cases e3
  | @cons v1 _ w1 _ q1 q =>
  cases q with
  | nil =>
    simp only [setAll] at e3
    split at e3 <;> cases e3
  | @cons v2 _ w2 _ q2 q =>
  cases q with
  | cons q3 q =>
    simp only [setAll] at e3
    split at e3
    · split at e3 <;> cases e3
    · cases e3
  | nil =>
    simp only [setAll] at e3
    split at e3
    · rename_i c1
      split at e3
      · rename_i c2
        cases e3
        exact ⟨v1, v2, rfl, fin _ F1 ι1 H1 ((S1.setW q1 c1).setW q2 c2) st1.fz⟩
      · cases e3
    · cases e3
theorem snd_par3 (O : XS g X sc) {i j l : Nat} {x y z : Str} {a b c : Expr} {es : Exs} {px py pz pt pos pt2 : Pos} {kt k2 : Nat} (hi : g.N[i]? = some x) (hj : g.N[j]? = some y) (hl : g.N[l]? = some z) (hij : i ≠ j) (hil : i ≠ l) (hjl : j ≠ l)
    (hx : sc.names.lookup x = some .local) (hy : sc.names.lookup y = some .local) (hz : sc.names.lookup z = some .local)
    (ha : PA X [a, b, c] (tAs g es)) (hw : swp [.Name x px, .Name y py, .Name z pz] [a, b, c] sc = some (some [x, y, z])) : PS X (.Assign [.Tuple [.Name x px, .Name y py, .Name z pz] kt pt] (.Tuple [a, b, c] k2 pt2) pos) (tSt g (.par [i, j, l] es)) := by
  refine PS.weak (ps_par3 O.ok.calm O.ok.nd (by rw [O.ok.eN]; exact hi) (by rw [O.ok.eN]; exact hj) (by rw [O.ok.eN]; exact hl) hij hil hjl (by rw [O.ok.sc]; exact hx) (by rw [O.ok.sc]; exact hy) (by rw [O.ok.sc]; exact hz) ha (swp_ok O.ok.sc (by rw [← O.ok.sc]; exact O.kind) hw) (sole_of sw_tup)) fun D σ H ⟨E, F, ι, s, S0, fl, s', h, fin⟩ => ?_
  simp only [run] at h
  obtain ⟨ws, s1, e1, h2⟩ := bd_some h
  obtain ⟨l, s2, e2, h3⟩ := bd_some h2
  obtain ⟨e3, e9⟩ := on_some e2
  cases e9
  cases h3
  refine ⟨E, F, ι, s, S0, ws, s1, e1, fun vs F1 ι1 H1 S1 st1 q => ?_⟩
  cases q with
  | nil => simp only [setAll] at e3; cases e3
  | @cons v1 _ w1 _ q1 q =>
  cases q with
  | nil =>
    simp only [setAll] at e3
    split at e3 <;> cases e3
  | @cons v2 _ w2 _ q2 q =>
  cases q with
  | nil =>
    simp only [setAll] at e3
    split at e3
    · split at e3 <;> cases e3
    · cases e3
  | @cons v3 _ w3 _ q3 q =>
  cases q with
  | cons q4 q =>
    simp only [setAll] at e3
    split at e3
    · split at e3
      · split at e3 <;> cases e3
      · cases e3
    · cases e3
  | nil =>
    simp only [setAll] at e3
    split at e3
    · rename_i c1
      split at e3
      · rename_i c2
        split at e3
        · rename_i c3
          cases e3
          exact ⟨v1, v2, v3, rfl, fin _ F1 ι1 H1 (((S1.setW q1 c1).setW q2 c2).setW q3 c3) st1.fz⟩
        · cases e3
      · cases e3
    · cases e3
theorem asI_int {st : List Cell} {r : R} {j : Int} (h : asI st r = some j) : r.dat st = some (.int j) := by
  unfold asI at h
  split at h
  · rename_i e
    cases h
    exact e
  · cases h
theorem ixN_lt {n : Nat} {j : Int} {m : Nat} (h : L2.ixN n j = some m) : m < n := (ixN_seq h).2.1
theorem snd_setv (O : XS g X sc) {i : Nat} {k e : Ex} {y : Str} {kx v : Expr} {p p2 pos : Pos} (hv : okV g.N sc i y = true) (hs : notSlice kx = true) (hk : PE X kx (tE g k)) (he : PE X v (tE g e)) :
    PS X (.Assign [.Subscript (.Name y p) kx p2] v pos) (tSt g (.setv i k e)) := by
  refine PS.weak (ps_asg he (pg_sub (pe_varB O.ok hv) hk set_list (by intro _; cases kx <;> first | rfl | cases hs)) sub_sw sub_plain (asg1 rfl)) fun D σ H ⟨E, F, ι, s, S0, fl, s', h, fin⟩ => ?_
  simp only [run] at h
  obtain ⟨r, s1, e1, h2⟩ := bd_some h
  obtain ⟨w, s2, e2, h3⟩ := bd_some h2
  obtain ⟨e3, e9⟩ := on_some e2
  cases e9
  obtain ⟨_, s2, e7, h3⟩ := bd_some h3
  obtain ⟨e8, e9⟩ := on_some e7
  cases e9
  obtain ⟨kr, s3, e4, h4⟩ := bd_some h3
  obtain ⟨j, s4, e5, h5⟩ := bd_some h4
  obtain ⟨e6, e9⟩ := on_some e5
  cases e9
  refine tE.go S0 e1 fun v F1 ι1 H1 S1 st1 rr fr => ?_
  obtain ⟨F2, S2, st2, q⟩ := S1.froze rr fr e3
  obtain ⟨o, ho⟩ : ∃ o, σ[i]? = some (some o) := by
    split at e8
    · rename_i c
      obtain ⟨u, q1, q2, q3⟩ := S2.slot i _ c
      exact ⟨u, q1⟩
    · cases e8
  refine ⟨o, ho, tE.go S2 e4 fun kv F3 ι3 H3 S3 st3 rr3 fr3 => ?_⟩
  have ek := (S3.rv rr3 (asI_int e6)).int
  subst ek
  split at h5
  · rename_i x
    cases q with
    | d q =>
    have q' := dp_mono st3.fz _ _ q
    split at h5
    · -- its own list
      rename_i xs c
      split at h5
      · rename_i n en
        cases h5
        obtain ⟨u, q1, q2, q3⟩ := S3.slot i _ c
        rw [ho] at q1
        cases q1
        cases q2 with
        | own o =>
        obtain ⟨vs, g1, g2⟩ := o.ex
        exact ⟨_, vs, j, n, rfl, rfl, g1, by rw [dpa_len g2]; exact en, fin _ F3 ι3 _ (S3.chg c ho (dpa_set q' n g2)) ((st1.fz.trans st2.fz).trans st3.fz)⟩
      · cases h5
    · -- a shared one
      rename_i n c
      split at h5
      · rename_i xs cx
        split at h5
        · rename_i m en
          cases h5
          obtain ⟨u, q1, q2, q3⟩ := S3.slot i _ c
          rw [ho] at q1
          cases q1
          cases q2 with
          | w q2 =>
          cases q2 with
          | cell q2 =>
          obtain ⟨b, vs, g0, g1, g2⟩ := S3.st n xs cx
          rw [q2] at g0
          cases g0
          exact ⟨_, vs, j, m, rfl, rfl, g1, by rw [dpa_len g2]; exact en, fin _ F3 ι3 _ (S3.chgC q2 (dpa_set q' m g2)) ((st1.fz.trans st2.fz).trans st3.fz)⟩
        · cases h5
      · cases h5
    · cases h5
  · cases h5
theorem snd_app (O : XS g X sc) {i : Nat} {e : Ex} {y : Str} {v : Expr} {p apos cpos pos : Pos} (hv : okV g.N sc i y = true) (he : PE X v (tE g e)) (hn : notStar v = true) (hl : (apos.endLine == cpos.line) = true) :
    PS X (.Expr (.Call (.Attribute (.Name y p) "append" apos) [v] [] cpos) pos) (tSt g (.app i e)) := by
  refine PS.weak (ps_expr (pe_bm PySem.F.plainAttrs_list PySem.F.slot_list_append PySem.F.type_list_append mt_append (pe_varB O.ok hv) (pa1 he hn) rfl (by rw [star_of hn]; rfl) hl (star_of hn) plain0) rfl) fun D σ H ⟨E, F, ι, s, S0, fl, s', h, fin⟩ => ?_
  simp only [run] at h
  obtain ⟨_, s0, e0, h1⟩ := bd_some h
  obtain ⟨e1, e9⟩ := on_some e0
  cases e9
  obtain ⟨r, s1, e2, h2⟩ := bd_some h1
  obtain ⟨w, s2, e3, h3⟩ := bd_some h2
  obtain ⟨e4, e9⟩ := on_some e3
  cases e9
  split at e1
  · rename_i xs0 c0
    obtain ⟨u, q1, q2, q3⟩ := S0.slot i _ c0
    cases q2 with
    | @own a _ o =>
    obtain ⟨vs0, g1, g2⟩ := o.ex
    refine ⟨.ref a, q1, .inl ⟨rfl, vs0, SqL.of g1⟩, tE.go S0 e2 fun v F1 ι1 H1 S1 st1 rr fr => ?_⟩
    obtain ⟨F2, S2, st2, q⟩ := S1.froze rr fr e4
    split at h3
    · rename_i x xs c
      obtain ⟨u, p1, p2, p3⟩ := S2.slot i _ c
      rw [q1] at p1
      cases p1
      cases p2 with
      | own o2 =>
      obtain ⟨vs, k1, k2⟩ := o2.ex
      cases q with
      | d q =>
      split at h3
      · rename_i hl
        cases h3
        refine ⟨a, vs, v, rfl, rfl, k1, by rw [dpa_len k2, sizeL]; exact hl, ?_⟩
        exact fin _ F2 ι1 _ (S2.chg c q1 (dpa_app k2 (.cons q .nil))) (st1.fz.trans st2.fz)
      · cases h3
    · cases h3
  · cases e1
theorem snd_ins (O : XS g X sc) {i : Nat} {k e : Ex} {y : Str} {b v : Expr} {p apos cpos pos : Pos} (hv : okV g.N sc i y = true) (hk : PE X b (tE g k)) (he : PE X v (tE g e)) (hnb : notStar b = true) (hn : notStar v = true) (hl : (apos.endLine == cpos.line) = true) :
    PS X (.Expr (.Call (.Attribute (.Name y p) "insert" apos) [b, v] [] cpos) pos) (tSt g (.ins i k e)) := by
  refine PS.weak (ps_expr (pe_bm PySem.F.plainAttrs_list PySem.F.slot_list_insert PySem.F.type_list_insert mt_insert (pe_varB O.ok hv) (pa2 hk he hnb hn) rfl (by rw [star_of hnb, star_of hn]; rfl) hl (star_of hnb) (plain1 hn)) rfl) fun D σ H ⟨E, F, ι, s, S0, fl, s', h, fin⟩ => ?_
  simp only [run] at h
  obtain ⟨_, s0, e0, h1⟩ := bd_some h
  obtain ⟨e1, e9⟩ := on_some e0
  cases e9
  obtain ⟨kr, s1, e2, h2⟩ := bd_some h1
  obtain ⟨j, s2, e3, h3⟩ := bd_some h2
  obtain ⟨e4, e9⟩ := on_some e3
  cases e9
  obtain ⟨r, s3, e5, h4⟩ := bd_some h3
  obtain ⟨w, s4, e6, h5⟩ := bd_some h4
  obtain ⟨e7, e9⟩ := on_some e6
  cases e9
  split at e1
  · rename_i xs0 c0
    obtain ⟨u, q1, q2, q3⟩ := S0.slot i _ c0
    cases q2 with
    | @own a _ o =>
    obtain ⟨vs0, g1, g2⟩ := o.ex
    refine ⟨.ref a, q1, .inl ⟨rfl, vs0, SqL.of g1⟩, tE.go S0 e2 fun vk F1 ι1 H1 S1 st1 rrk frk => tE.go S1 e5 fun v F2 ι2 H2 S2 st2 rr fr => ?_⟩
    have ek : vk = .int j := (S1.rv rrk (asI_int e4)).int
    subst ek
    obtain ⟨F3, S3, st3, q⟩ := S2.froze rr fr e7
    split at h5
    · rename_i x xs c
      obtain ⟨u, p1, p2, p3⟩ := S3.slot i _ c
      rw [q1] at p1
      cases p1
      cases p2 with
      | own o2 =>
      obtain ⟨vs, k1, k2⟩ := o2.ex
      cases q with
      | d q =>
      split at h5
      · rename_i hl
        cases h5
        refine ⟨a, vs, j, v, rfl, rfl, k1, by rw [dpa_len k2, sizeL]; exact hl.1, hl.2.1, by have := hl.2.2; omega, ?_⟩
        exact fin _ F3 ι2 _ (S3.chg c q1 (dpa_app (dpa_app (dpa_take _ k2) (.cons q .nil)) (dpa_drop _ k2))) ((st1.fz.trans st2.fz).trans st3.fz)
      · cases h5
    · cases h5
  · cases e1
theorem snd_exp (O : XS g X sc) {e : Ex} {v : Expr} {pos : Pos} (he : PE X v (tE g e)) (hn : isComp v = false) : PS X (.Expr v pos) (tSt g (.exp e)) :=
  PS.weak (ps_expr he (sw_plain hn)) fun D σ H ⟨E, F, ι, s, S0, fl, s', h, fin⟩ => by
    simp only [run] at h
    obtain ⟨r, s1, e1, h2⟩ := bd_some h
    cases h2
    exact tE.go S0 e1 fun v F1 ι1 H1 S1 st1 rr fr => fin σ F1 ι1 H1 S1 st1.fz
theorem snd_ret {e : Ex} {v : Expr} {pos : Pos} (he : PE X v (tE g e)) : PS X (.Return (some v) pos) (tSt g (.ret e)) :=
  PS.weak (ps_ret he) fun D σ H ⟨E, F, ι, s, S0, fl, s', h, fin⟩ => by
    simp only [run] at h
    obtain ⟨r, s1, e1, h2⟩ := bd_some h
    refine tE.go S0 e1 fun v F1 ι1 H1 S1 st1 rr fr => ?_
    split at h2
    · cases h2
    · rename_i nb
      cases h2
      exact fin σ F1 ι1 H1 S1 st1.fz v rr fr fun xs z => nb xs z
theorem snd_retN {pos : Pos} : PS X (.Return none pos) (tSt g .retN) :=
  PS.weak ps_retN fun D σ H ⟨E, F, ι, s, S0, fl, s', h, fin⟩ => by
    simp only [run] at h
    cases h
    exact fin σ F ι H S0 (Same.refl _) .non (.w (.d .non)) fre_w fun _ z => by cases z
theorem snd_if {c : Ex} {a b : Sts} {t : Expr} {y z : List Stmt} {pos : Pos} (hc : PT X t (tT g c)) (ha : PSs X y (tSs g a)) (hb : PSs X z (tSs g b)) : PS X (.If t y z pos) (tSt g (.ite c a b)) :=
  PS.weak (ps_if hc ha hb) fun D σ H ⟨E, F, ι, s, S0, fl, s', h, fin⟩ => by
    simp only [run] at h
    obtain ⟨r, s1, e1, h2⟩ := bd_some h
    obtain ⟨k, s2, e2, h3⟩ := bd_some h2
    obtain ⟨e3, e9⟩ := on_some e2
    cases e9
    refine ⟨E, F, ι, s, S0, r, _, k, e1, e3, fun F1 ι1 H1 S1 st1 => ?_⟩
    cases k with
    | true =>
      rw [if_pos rfl] at h3
      exact iteT ⟨E, F1, ι1, _, S1, fl, s', h3, fin.more st1.fz⟩
    | false =>
      rw [if_neg Bool.false_ne_true] at h3
      exact iteF ⟨E, F1, ι1, _, S1, fl, s', h3, fin.more st1.fz⟩
theorem snd_for (O : XS g X sc) {tg : Tg} {it : It} {b : Sts} {t i : Expr} {y : List Stmt} {pos : Pos} (hi : PI X t i (tI g it)) (hg : PG X t (gT g tg)) (hb : PSs X y (tSs g b)) (hf : ∀ x, foldedSetIterable i X.env x = pure x) : PS X (.For t i y [] pos) (tSt g (.for_ tg it b)) :=
  PS.weak (ps_for (never_of O.ok) O.ok.calm hi hg hb hf) fun D σ H ⟨E, F, ι, s, S0, fl, s', h, fin⟩ => by
    simp only [run] at h
    obtain ⟨xs, s1, e1, h2⟩ := bd_some h
    generalize hfn : (fun (x : PyData) (s2 : S) => bd (on (bindT tg x s2.sl) s2) fun l s3 => runs g.cal g.G g.wf b ⟨l, s3.st⟩) = f at h2
    refine ⟨E, F, ι, s, S0, xs, s1, e1, fun J F1 ι1 H1 S1 st1 iok => ?_⟩
    refine ⟨fun i m σ H => m = xs.length - i ∧ i ≤ xs.length ∧ ∃ F ι s, Stt g.K g.fa E F ι s σ H ∧ Same F1 F ∧ loopL f (xs.drop i) s = some (fl, s'), ⟨xs.length, by simp, Nat.zero_le _, F1, ι1, s1, S1, Same.refl _, by rw [List.drop_zero]; exact h2⟩, ?_⟩
    rintro i m σ2 H2 ⟨rfl, hi, F2, ι2, s2, S2, sm2, e2⟩
    by_cases hlt : i < xs.length
    · have hx : xs[i]? = some xs[i] := List.getElem?_eq_getElem hlt
      rw [List.drop_eq_getElem_cons hlt] at e2
      simp only [loopL] at e2
      obtain ⟨o, s3, e3, e4⟩ := bd_some e2
      obtain ⟨go, yl⟩ := (iok H2 (sm2.trans S2.sub)).1 i _ hx
      refine .inr ⟨go, fun σ H => ∃ F ι s, Stt g.K g.fa E F ι s σ H ∧ Same F1 F ∧ loopL f (xs.drop (i + 1)) s = some (fl, s'), fun σ' H' q => ⟨xs.length - (i + 1), by omega, rfl, hlt, q⟩, fun x H' y => ?_⟩
      obtain ⟨F3, S3, st3, rr3, _⟩ := S2.made (Mk.mono sm2 (yl x H' y))
      rw [← hfn] at e3
      obtain ⟨l, s4, e5, e6⟩ := bd_some e3
      obtain ⟨e7, e9⟩ := on_some e5
      cases e9
      cases rr3 with
      | w q =>
      cases q with
      | d q =>
      refine ⟨E, F3, ι2, _, _, S3, q, l, e7, fun σ3 S4 _ => ⟨E, F3, ι2, _, S4, o, s3, e6, fun σ5 F5 ι5 H5 S5 sm5 => ?_⟩⟩
      have sm := (sm2.trans st3.fz).trans sm5
      cases o with
      | nx => exact ⟨F5, ι5, s3, S5, sm, e4⟩
      | ct => exact ⟨F5, ι5, s3, S5, sm, e4⟩
      | bk =>
        cases e4
        exact fin σ5 F5 ι5 H5 S5 (st1.fz.trans sm)
      | rt r =>
        cases e4
        exact fin σ5 F5 ι5 H5 S5 (st1.fz.trans sm)
    · have ei : i = xs.length := by omega
      subst ei
      rw [List.drop_length] at e2
      simp only [loopL] at e2
      cases e2
      exact .inl ⟨(iok H2 (sm2.trans S2.sub)).2, fin σ2 F2 ι2 H2 S2 (st1.fz.trans sm2)⟩
theorem snd_while (O : XS g X sc) {c : Ex} {b : Sts} {t : Expr} {y : List Stmt} {pos : Pos} (hc : PT X t (tT g c)) (hb : PSs X y (tSs g b)) : PS X (.While t y [] pos) (tSt g (.whl c b)) :=
  PS.weak (ps_while (never_of O.ok) hc hb) fun D σ H ⟨E, F, ι, s, S0, fl, s', h, fin⟩ => by
    simp only [run] at h
    generalize htn : (fun (s : S) => bd (ev g.cal g.G c s) fun x s1 => on (asB s1.st x) s1) = tf at h
    generalize hfn : (fun (s : S) => runs g.cal g.G g.wf b s) = f at h
    refine ⟨fun m σ H => ∃ F2 ι s, Stt g.K g.fa E F2 ι s σ H ∧ Same F F2 ∧ loopW tf f m s = some (fl, s'), ⟨g.wf, F, ι, s, S0, Same.refl _, h⟩, ?_⟩
    rintro m σ2 H2 ⟨F2, ι2, s2, S2, sm2, e2⟩
    cases m with
    | zero => simp only [loopW] at e2; cases e2
    | succ n =>
    simp only [loopW] at e2
    obtain ⟨k, s3, e3, e4⟩ := bd_some e2
    rw [← htn] at e3
    obtain ⟨r, s4, e5, e6⟩ := bd_some e3
    obtain ⟨e7, e9⟩ := on_some e6
    cases e9
    refine ⟨E, F2, ι2, s2, S2, r, _, k, e5, e7, fun F3 ι3 H3 S3 st3 => ?_⟩
    cases k with
    | false =>
      rw [if_neg Bool.false_ne_true] at e4
      cases e4
      exact iteF (fin σ2 F3 ι3 H3 S3 (sm2.trans st3.fz))
    | true =>
      rw [if_pos rfl] at e4
      refine iteT ?_
      obtain ⟨o, s5, e8, e10⟩ := bd_some e4
      rw [← hfn] at e8
      refine ⟨fun σ H => ∃ F2 ι s, Stt g.K g.fa E F2 ι s σ H ∧ Same F F2 ∧ loopW tf f n s = some (fl, s'), fun σ' H' q => ⟨n, Nat.lt_succ_self n, q⟩, E, F3, ι3, _, S3, o, s5, e8, fun σ5 F5 ι5 H5 S5 sm5 => ?_⟩
      have sm := (sm2.trans st3.fz).trans sm5
      cases o with
      | nx => exact ⟨F5, ι5, s5, S5, sm, e10⟩
      | ct => exact ⟨F5, ι5, s5, S5, sm, e10⟩
      | bk =>
        cases e10
        exact fin σ5 F5 ι5 H5 S5 sm
      | rt r =>
        cases e10
        exact fin σ5 F5 ι5 H5 S5 sm
theorem snd_brk {pos : Pos} : PS X (.Break pos) (tSt g .brk) := PS.weak ps_break fun D σ H ⟨E, F, ι, s, S0, fl, s', h, fin⟩ => by
  simp only [run] at h
  cases h
  exact fin σ F ι H S0 (Same.refl _)
theorem snd_cnt {pos : Pos} : PS X (.Continue pos) (tSt g .cnt) := PS.weak ps_continue fun D σ H ⟨E, F, ι, s, S0, fl, s', h, fin⟩ => by
  simp only [run] at h
  cases h
  exact fin σ F ι H S0 (Same.refl _)
theorem snd_pass {pos : Pos} : PS X (.Pass pos) (tSt g .pass) := PS.weak ps_pass fun D σ H ⟨E, F, ι, s, S0, fl, s', h, fin⟩ => by
  simp only [run] at h
  cases h
  exact fin σ F ι H S0 (Same.refl _)
theorem snd_never {x : Stmt} : PS X x (tSt g .never) := PS.weak ps_never fun D σ H ⟨E, F, ι, s, S0, fl, s', h, fin⟩ => by
  simp only [run] at h
  cases h
theorem snd_sn : PSs X [] (tSs g .nil) := PSs.weak pss_nil fun D σ H ⟨E, F, ι, s, S0, fl, s', h, fin⟩ => by
  simp only [runs] at h
  cases h
  exact fin σ F ι H S0 (Same.refl _)
theorem snd_sc {a : St} {r : Sts} {x : Stmt} {xs : List Stmt} (h1 : PS X x (tSt g a)) (h2 : PSs X xs (tSs g r)) : PSs X (x :: xs) (tSs g (.cons a r)) := PSs.weak (pss_cons h1 h2) fun D σ H ⟨E, F, ι, s, S0, fl, s', h, fin⟩ => by
  simp only [runs] at h
  obtain ⟨f1, s1, e1, h2⟩ := bd_some h
  refine ⟨E, F, ι, s, S0, f1, s1, e1, fun σ2 F2 ι2 H2 S2 sm => ?_⟩
  cases f1 with
  | nx => exact ⟨E, F2, ι2, s1, S2, fl, s', h2, fin.more sm⟩
  | bk => cases h2; exact fin σ2 F2 ι2 H2 S2 sm
  | ct => cases h2; exact fin σ2 F2 ι2 H2 S2 sm
  | rt r => cases h2; exact fin σ2 F2 ι2 H2 S2 sm
end
end Xp

/-! E14: every block of the small language. -/
namespace Xp
open PySem PySem.Spec PyProof.Rows L2
section
variable {g : Gd}
/-- name = a comprehension on one line -/
theorem snd_setLc {X : Cx} {sc : Scope} (O : XS g X sc) {i : Nat} {own : List Nat} {tg : Tg} {it : It} {c x : Ex} {v : Expr} {y : Str} {py pos : Pos} (hv : chkV g.N i sc (.Name y py) = true) (hy : sc.names.lookup y = some .local) (h : chk g.N g.L (.lc own tg it c x) sc v = true) (hw : swC v y py sc = true) :
    PS X (.Assign [.Name y py] v pos) (tSt g (.asg (.v i) (.lc own tg it c x))) := by
  unfold chk at h
  split at h
  · rename_i elt t iter ifs scope ps
    simp only [Bool.and_eq_true] at h
    obtain ⟨⟨⟨⟨⟨h1, h2⟩, h3⟩, h4⟩, h5⟩, h6⟩ := h
    have ht : ∀ j ∈ tgv tg, j ∈ own := fun j hj => by
      have := List.all_eq_true.mp h2 j hj
      simpa using this
    have eo : (own.map fun j => (g.N.getD j "", j)).map (·.2) = own := by
      rw [List.map_map]
      exact List.map_id _
    have tests : ∀ (s : Shared) (H : Hp) (C : Addr) (cl : List (Str × Addr)) (fp : List Addr), PTs (X.blk s H scope (compEnvC scope cl C X.env) fp) ifs (tT g c) := fun s H C cl fp => by
      split at h5
      · split at h5
        · exact pts_yes
        · cases h5
      · exact pts_one (snd_e c _ _ _ (O.ok.blk s H scope C cl fp) h5).2
      · cases h5
    have hi : g.N[i]? = some y := by
      unfold chkV at hv
      simp only [Bool.and_eq_true, decide_eq_true_eq] at hv
      exact hv.1
    have hk : X.env.scope.kind = .function := O.kind
    have pl : PS X (.Assign [.Name y py] (.ListComp elt [⟨t, iter, ifs, 0⟩] scope ps) pos) (tAsg (tLc (tI g it) (gT g tg) (tT g c) (tE g x) ((own.map fun j => (g.N.getD j "", j)).map (·.2))) (gName i)) :=
      ps_setLc O.ok.calm O.ok.nd (by rw [O.ok.eN]; exact hi) (by rw [O.ok.sc]; exact hy) (swC_ok hk (by rw [O.ok.sc]; exact hw)) (snd_i it X sc t iter O.ok h3) (by rw [O.ok.eN, O.ok.sc]; exact blkOk_by h1) (fun s H C cl fp => snd_tg (O.ok.blk s H scope C cl fp) (sto_blk s H scope C cl fp) tg t h4) tests (fun s H C cl fp => (snd_e x _ _ _ (O.ok.blk s H scope C cl fp) h6).1) (chkI_fold h3)
    rw [eo] at pl
    exact PS.weak pl fun D σ H q => lc_r O.ok ht σ H _ (asgv_r D σ H q)
  · cases h
theorem snd_setLc2 {X : Cx} {sc : Scope} (O : XS g X sc) {i : Nat} {own own1 : List Nat} {tg tg1 : Tg} {it it1 : It} {c c1 x : Ex} {v : Expr} {y : Str} {py pos : Pos} (hv : chkV g.N i sc (.Name y py) = true) (hy : sc.names.lookup y = some .local) (h : chk g.N g.L (.lc2 own own1 tg it c tg1 it1 c1 x) sc v = true) (hw : swC v y py sc = true) :
    PS X (.Assign [.Name y py] v pos) (tSt g (.asg (.v i) (.lc2 own own1 tg it c tg1 it1 c1 x))) := by
  unfold chk at h
  split at h
  · rename_i elt t iter ifs t1 i1 ifs1 scope ps
    simp only [Bool.and_eq_true] at h
    obtain ⟨⟨⟨⟨⟨⟨⟨⟨⟨⟨h1, h2⟩, h3⟩, h4⟩, h5⟩, h6⟩, h7⟩, h8⟩, h9⟩, h10⟩, h11⟩ := h
    have ht : ∀ j ∈ tgv tg, j ∈ own := fun j hj => by
      have := List.all_eq_true.mp h2 j hj
      simpa using this
    have ht1 : ∀ j ∈ tgv tg1, j ∈ own1 := fun j hj => by
      have := List.all_eq_true.mp h3 j hj
      simpa using this
    have hs : ∀ j ∈ own1, j ∈ own := fun j hj => by
      have := List.all_eq_true.mp h4 j hj
      simpa using this
    have eo : (own.map fun j => (g.N.getD j "", j)).map (·.2) = own := by
      rw [List.map_map]
      exact List.map_id _
    have tests : ∀ (s : Shared) (H : Hp) (C : Addr) (cl : List (Str × Addr)) (fp : List Addr), PTs (X.blk s H scope (compEnvC scope cl C X.env) fp) ifs (tT g c) := fun s H C cl fp => by
      split at h7
      · split at h7
        · exact pts_yes
        · cases h7
      · exact pts_one (snd_e c _ _ _ (O.ok.blk s H scope C cl fp) h7).2
      · cases h7
    have tests1 : ∀ (s : Shared) (H : Hp) (C : Addr) (cl : List (Str × Addr)) (fp : List Addr), PTs (X.blk s H scope (compEnvC scope cl C X.env) fp) ifs1 (tT g c1) := fun s H C cl fp => by
      split at h10
      · split at h10
        · exact pts_yes
        · cases h10
      · exact pts_one (snd_e c1 _ _ _ (O.ok.blk s H scope C cl fp) h10).2
      · cases h10
    have hi : g.N[i]? = some y := by
      unfold chkV at hv
      simp only [Bool.and_eq_true, decide_eq_true_eq] at hv
      exact hv.1
    have hk : X.env.scope.kind = .function := O.kind
    have pl : PS X (.Assign [.Name y py] (.ListComp elt [⟨t, iter, ifs, 0⟩, ⟨t1, i1, ifs1, 0⟩] scope ps) pos) (tAsg (tLc2 (tI g it) (gT g tg) (tT g c) (tI g it1) (gT g tg1) (tT g c1) (tE g x) ((own.map fun j => (g.N.getD j "", j)).map (·.2)) own1) (gName i)) :=
      ps_setLc2 O.ok.calm O.ok.nd (by rw [O.ok.eN]; exact hi) (by rw [O.ok.sc]; exact hy) (swC_ok hk (by rw [O.ok.sc]; exact hw)) (snd_i it X sc t iter O.ok h5) (by rw [O.ok.eN, O.ok.sc]; exact blkOk_by h1) (by rw [eo]; exact hs) (fun s H C cl fp => snd_tg (O.ok.blk s H scope C cl fp) (sto_blk s H scope C cl fp) tg t h6) tests
        (fun s H C cl fp => snd_i it1 _ _ t1 i1 (O.ok.blk s H scope C cl fp) h8) (fun s H C cl fp => snd_tg (O.ok.blk s H scope C cl fp) (sto_blk s H scope C cl fp) tg1 t1 h9) tests1 (fun s H C cl fp => (snd_e x _ _ _ (O.ok.blk s H scope C cl fp) h11).1) (chkI_fold h5) (fun env => chkI_fold h8)
    rw [eo] at pl
    exact PS.weak pl fun D σ H q => lc2_r ht ht1 hs σ H _ (asgv_r D σ H q)
  · cases h
theorem asgt_s {X : Cx} {sc : Scope} (O : XS g X sc) {tg : Tg} {e : Ex} {x : Stmt} (hne : ∀ i, tg ≠ .v i) (ih : ∀ v, chk g.N g.L e sc v = true → Both g X v e)
    (h : (match x with
    | .Assign [t] v _ => (match t with
      | .Tuple ts _ _ => chkT g.N tg sc t && chk g.N g.L e sc v && (match v with | .Tuple vs _ _ => decide (swp ts vs sc = some none) | _ => true)
      | _ => false)
    | _ => false) = true) : PS X x (tSt g (.asg tg e)) := by
  split at h
  · split at h
    · simp only [Bool.and_eq_true] at h
      obtain ⟨⟨h1, h2⟩, h3⟩ := h
      refine snd_asgt O hne h1 (ih _ h2).1 ?_
      split at h3
      · exact swp_ok O.ok.sc (by rw [← O.ok.sc]; exact O.kind) (of_decide_eq_true h3)
      · rename_i nt
        exact tup_plain (by split <;> first | rfl | exact absurd rfl (nt _ _ _))
    · cases h
  · cases h
mutual
theorem snd_s : ∀ (a : St) (X : Cx) (sc : Scope) (x : Stmt), XS g X sc → chkS g.N g.L a sc x = true → PS X x (tSt g a)
  | .asg (.v i) e, X, sc, x, O, h => by
    unfold chkS at h
    split at h
    · split at h
      · rename_i t v pos y py
        simp only [Bool.and_eq_true, Bool.or_eq_true, Bool.not_eq_true'] at h
        obtain ⟨⟨h1, h2⟩, h3⟩ := h
        rcases h3 with h3 | h3
        · exact snd_asgv O h1 (snd_e e X sc _ O.ok h2).1 h3
        · split at h3
          · simp only [Bool.and_eq_true, decide_eq_true_eq] at h3
            exact snd_setLc O h1 h3.2 h2 h3.1
          · simp only [Bool.and_eq_true, decide_eq_true_eq] at h3
            exact snd_setLc2 O h1 h3.2 h2 h3.1
          · unfold chk at h2
            cases h2
          · cases h3
      · cases h
    · cases h
  | .asg .nil e, X, sc, x, O, h => asgt_s O (fun i z => by cases z) (fun v => (snd_e e X sc v O.ok)) (by unfold chkS at h; exact h)
  | .asg (.cons a b) e, X, sc, x, O, h => asgt_s O (fun i z => by cases z) (fun v => (snd_e e X sc v O.ok)) (by unfold chkS at h; exact h)
  | .asgC i e, X, sc, x, O, h => by
    unfold chkS at h
    split at h
    · split at h
      · simp only [Bool.and_eq_true, Bool.not_eq_true'] at h
        exact snd_asgC O h.1.1 (snd_e e X sc _ O.ok h.1.2).1 h.2
      · cases h
    · cases h
  | .par is es, X, sc, x, O, h => by
    unfold chkS at h
    split at h
    · split at h
      · split at h
        · simp only [Bool.and_eq_true, decide_eq_true_eq] at h
          obtain ⟨⟨⟨⟨⟨⟨h1, h2⟩, h3⟩, h4⟩, h5⟩, h6⟩, h7⟩ := h
          exact snd_par2 O h1 h2 h3 h4 h5 (snd_a es X sc _ O.ok h6) h7
        · cases h
      · split at h
        · simp only [Bool.and_eq_true, decide_eq_true_eq] at h
          obtain ⟨⟨⟨⟨⟨⟨⟨⟨⟨⟨h1, h2⟩, h3⟩, h4⟩, h5⟩, h6⟩, h7⟩, h8⟩, h9⟩, h10⟩, h11⟩ := h
          exact snd_par3 O h1 h2 h3 h4 h5 h6 h7 h8 h9 (snd_a es X sc _ O.ok h10) h11
        · cases h
      · cases h
    · cases h
  | .setv i k e, X, sc, x, O, h => by
    unfold chkS at h
    split at h
    · simp only [Bool.and_eq_true] at h
      obtain ⟨⟨⟨h1, h2⟩, h3⟩, h4⟩ := h
      exact snd_setv O h1 h3 (snd_e k X sc _ O.ok h2).1 (snd_e e X sc _ O.ok h4).1
    · cases h
  | .app i e, X, sc, x, O, h => by
    unfold chkS at h
    split at h
    · simp only [Bool.and_eq_true, decide_eq_true_eq] at h
      obtain ⟨⟨⟨⟨h1, rfl⟩, h3⟩, h4⟩, h5⟩ := h
      exact snd_app O h1 (snd_e e X sc _ O.ok h3).1 h4 h5
    · cases h
  | .ins i k e, X, sc, x, O, h => by
    unfold chkS at h
    split at h
    · simp only [Bool.and_eq_true, decide_eq_true_eq] at h
      obtain ⟨⟨⟨⟨⟨⟨h1, rfl⟩, h3⟩, h4⟩, h5⟩, h6⟩, h7⟩ := h
      exact snd_ins O h1 (snd_e k X sc _ O.ok h3).1 (snd_e e X sc _ O.ok h4).1 h5 h6 h7
    · cases h
  | .exp e, X, sc, x, O, h => by
    unfold chkS at h
    split at h
    · simp only [Bool.and_eq_true, Bool.not_eq_true'] at h
      exact snd_exp O (snd_e e X sc _ O.ok h.1).1 h.2
    · cases h
  | .ret e, X, sc, x, O, h => by
    unfold chkS at h
    split at h
    · exact snd_ret (snd_e e X sc _ O.ok h).1
    · cases h
  | .retN, X, sc, x, O, h => by
    unfold chkS at h
    split at h
    · exact snd_retN
    · cases h
  | .ite c a b, X, sc, x, O, h => by
    unfold chkS at h
    split at h
    · simp only [Bool.and_eq_true] at h
      exact snd_if (snd_e c X sc _ O.ok h.1.1).2 (snd_ss a X sc _ O h.1.2) (snd_ss b X sc _ O h.2)
    · cases h
  | .for_ tg it b, X, sc, x, O, h => by
    unfold chkS at h
    split at h
    · simp only [Bool.and_eq_true] at h
      exact snd_for O (snd_i it X sc _ _ O.ok h.1.2) (snd_tg O.ok O.sto tg _ h.1.1) (snd_ss b X sc _ O h.2) (chkI_fold h.1.2)
    · cases h
  | .whl c b, X, sc, x, O, h => by
    unfold chkS at h
    split at h
    · simp only [Bool.and_eq_true] at h
      exact snd_while O (snd_e c X sc _ O.ok h.1).2 (snd_ss b X sc _ O h.2)
    · cases h
  | .brk, X, sc, x, O, h => by
    unfold chkS at h
    split at h
    · exact snd_brk
    · cases h
  | .cnt, X, sc, x, O, h => by
    unfold chkS at h
    split at h
    · exact snd_cnt
    · cases h
  | .pass, X, sc, x, O, h => by
    unfold chkS at h
    split at h
    · exact snd_pass
    · cases h
  | .never, X, sc, x, O, h => snd_never
theorem snd_ss : ∀ (a : Sts) (X : Cx) (sc : Scope) (l : List Stmt), XS g X sc → chkSs g.N g.L a sc l = true → PSs X l (tSs g a)
  | .nil, X, sc, l, O, h => by
    unfold chkSs at h
    simp only [List.isEmpty_iff] at h
    subst h
    exact snd_sn
  | .cons a r, X, sc, l, O, h => by
    unfold chkSs at h
    split at h
    · simp only [Bool.and_eq_true] at h
      exact snd_sc (snd_s a X sc _ O h.1) (snd_ss r X sc _ O h.2)
    · cases h
end
end
end Xp

/-! E15: every def keeps its promise. -/
namespace Xp
open PySem PySem.Spec PyProof.Rows L2
def CXn : CXT := fun _ _ _ _ _ _ => False
def En : XK := fun _ _ _ => False
structure FnG (P : Program) (w : World) (K : PySem.W.Frag) (mg : Str → Option Value) (base : Heap) (k : Nat) (f : Addr) (fd : FuncData) (ps : List Str) (sp : Sp) : Prop where
  len : ∀ vs H Q, sp vs H Q En → vs.length = ps.length
  run : ∀ (A : Around) (outer : List Env) (s : Shared) (H : Hp) (args : Args) (us : List Value) (vs : List V) (Q : VK), A.guards = some [] → Room k A → Env0 P w K mg base A outer s H → BindsTo s fd args (ps.zip us) → Vals vs us → sp vs H Q En →
    codeAny (model P w) A (.call (.ref f) args) (CR CXn outer P w H s Q En) s
/-- a def of the text by its body, where no guard stands -/
theorem fnG_of {P : Program} {w : World} {K : PySem.W.Frag} {mg : Str → Option Value} {base : Heap} {k : Nat} {f : Addr} {name qual : Str} {params : Arguments} {body : List Stmt} {scope : Scope} {dvs : List V} {kws : List (Str × V)} {fd : FuncData}
    {N ps : List Str} {sp : Sp} (F : FunD K name qual params body scope dvs kws f fd) (S : FnScope N ps scope) (len : ∀ vs H Q, sp vs H Q En → vs.length = ps.length)
    (hbody : ∀ (cdv : Value) (A : Around) (outer : List Env) (s : Shared) (H : Hp) (vs : List V) (Q : VK), A.guards = some [] → Room k (A.deeper (envOfC qual scope s.heap.objs.size f cdv)) → sp vs H Q En →
      ∃ t, PSs (cxOf CXn P w K mg base N qual scope f cdv A outer s H En).nox body t ∧ t { nx := fun _ H' => Q .non H', rt := Q } (start N vs) H) :
    FnG P w K mg base (k + 1) f fd ps sp := by
  obtain ⟨oc, od, dV, kV, doc, pm, an, cdv, ct, osl, rfl, lk, hcd, _, _⟩ := F.ex
  refine ⟨len, fun A outer s H args us vs Q hg hr e0 hb r hsp => ?_⟩
  have up : ∀ b o, base.get? b = some o → s.heap.get? b = some o := fun b o e => (e0.bs b o e).1
  have kin := e0.mod.kin.keeps up
  have nl := e0.mod.nolimit.keeps up
  refine codeAny_call_function hr.depth (kin _ _ lk) rfl S.co S.gen rfl (PySem.W.codeRec_of kin hcd) (hb _ _ _ _ ?_)
  refine wpAny_newFunctionEnv_cells S.kind (fun ⟨n, v⟩ hy => ?_) fun env he s1 x => ?_
  · rcases S.par n (List.of_mem_zip hy).1 with q | q
    · exact .inl q
    · exact .inr ⟨q, PySem.W.cellsFrom_some _ _ _ (.inl q)⟩
  · subst he
    refine ⟨nl.keeps x.toInCall.keep, codeAny_func ?_⟩
    obtain ⟨t, ht, hq⟩ := hbody cdv A outer s H vs Q hg (hr.deeper _) hsp
    refine wpAny_mono (ht.nox.run [] s1 (start N vs) H _ (inv_start S hr.hd e0 (len _ _ _ hsp) r x) hq) (fun fl s' hs => ?_) fun e s' hs => hs
    cases fl with
    | ret u =>
      obtain ⟨v, σ', H', J, rv, q⟩ := hs
      exact ⟨v, H', J.os, J.bare, J.base, J.hok, rv, q⟩
    | next =>
      obtain ⟨σ', H', J, q⟩ := hs
      exact ⟨.non, H', J.os, J.bare, J.base, J.hok, rfl, q⟩
    | brk =>
      obtain ⟨_, _, _, q⟩ := hs
      exact False.elim q
    | cont =>
      obtain ⟨_, _, _, q⟩ := hs
      exact False.elim q
/-- called from a body -/
theorem callG {Y : Cx} {k : Nat} {f : Addr} {fd : FuncData} {ps : List Str} {sp : Sp} (F : FnG Y.prog Y.w Y.K Y.mg Y.base k f fd ps sp) (hg : Y.A.guards = some []) (hr : Room k Y.A) (hb : Binds Y.K fd ps []) : CallR Y (.ref f) (fun vs H Q => sp vs H Q En) := by
  intro pins s σ H vs us Q I r h
  have hl : (us ++ ([] : List Value)).length = ps.length := by rw [List.append_nil, ← r.length]; exact F.len _ _ _ h
  have hb' := hb s us I.kIn hl
  rw [List.append_nil] at hb'
  refine wpAny_call (codeAny_mono (F.run Y.A Y.stack s H ⟨us, []⟩ us vs Q hg hr I.env0 hb' r h) fun r s' hq => ?_)
  cases r with
  | error e => exact False.elim hq
  | ok fl =>
    cases fl with
    | ret u => exact I.after hq
    | next => exact False.elim hq
    | brk => exact False.elim hq
    | cont => exact False.elim hq

/-! ### the module -/
def scB (N ps : List Str) (sc : Scope) : Bool := decide (sc.kind = .function) && !sc.isCoroutine && !sc.isGenerator && decide N.Nodup && decide (N.take ps.length = ps) && ps.all (fun x => decide (sc.names.lookup x = some .local) || decide (sc.names.lookup x = some .cell)) && sc.names.all (fun y => !decide (y.2 = .free))
theorem scB_ok {N ps : List Str} {sc : Scope} (h : scB N ps sc = true) : FnScope N ps sc := by
  unfold scB at h
  simp only [Bool.and_eq_true, Bool.not_eq_true', decide_eq_true_eq, List.all_eq_true, Bool.or_eq_true, decide_eq_false_iff_not] at h
  exact ⟨h.1.1.1.1.1.1, h.1.1.1.1.1.2, h.1.1.1.1.2, h.1.1.1.2, h.1.1.2, h.1.2, h.2⟩
structure Dfn where
  at_ : Str
  name : Str
  ps : List Str
  N : List Str
  params : Arguments
  body : List Stmt
  scope : Scope
  df : Df
def Dfn.ok (L : Lk) (d : Dfn) : Bool := scB d.N d.ps d.scope && chkSs d.N L d.df.body d.scope d.body && decide (d.df.np = d.ps.length) && decide (d.df.nn = d.N.length)
structure Md (K : PySem.W.Frag) (mg : Str → Option Value) (fa : Nat → Option Addr) (L : Lk) (G : List PyData) (D : List Dfn) : Prop where
  fnl : ∀ (i : Nat) (x : Str), L.fn[i]? = some x → ∃ d, D[i]? = some d ∧ d.at_ = x
  fns : ∀ (i : Nat) (d : Dfn), D[i]? = some d → ∃ a fd, fa i = some a ∧ mg d.at_ = some (.ref a) ∧ FunD K d.name d.name d.params d.body d.scope [] [] a fd ∧ Binds K fd d.ps []
  flt : ∀ (i : Nat) (a : Addr), fa i = some a → i < D.length
  oks : ∀ d ∈ D, d.ok L = true
  gls : ∀ (i : Nat) (x : Str), L.gl[i]? = some x → ∃ (u : Value) (v : V) (d : PyData), mg x = some u ∧ RelV v u ∧ G[i]? = some d ∧ ∀ F, Dq K F v d
  blt : ∀ x ∈ bnames, mg x = none
  gcd : L.gc = true → mg "gcd" = some (.builtin "math.gcd")
section
variable {P : Program} {w : World} {K : PySem.W.Frag} {mg : Str → Option Value} {base : Heap} {fa : Nat → Option Addr} {L : Lk} {G : List PyData} {D : List Dfn} {wf : Nat}
def gd (K : PySem.W.Frag) (fa : Nat → Option Addr) (L : Lk) (G : List PyData) (D : List Dfn) (wf : Nat) (N : List Str) (k : Nat) : Gd := ⟨K, fa, N, L, G, call (D.map (·.df)) G wf k, wf⟩
theorem spF_N {N N' : List Str} {k : Nat} {f : Nat} {vs : List V} {H : Hp} {Q : VK} {E : XK} (h : spF (gd K fa L G D wf N k) f vs H Q E) : spF (gd K fa L G D wf N' k) f vs H Q E := h
theorem dfs_get {f : Nat} {d : Dfn} (h : D[f]? = some d) : (D.map (·.df))[f]? = some d.df := by rw [List.getElem?_map, h]; rfl
theorem rws_get {F : Hp} {ι : List Addr} : ∀ {vs : List V} {ws : List W} (i : Nat) (r : R), RWs K fa F ι vs ws → (ws.map fun w => some (R.w w))[i]? = some (some r) → ∃ v : V, (vs.map some)[i]? = some (some v) ∧ ∃ w, r = .w w ∧ RW K fa F ι v w
  | _, _, i, r, .nil, h => by simp at h
  | _, _, 0, r, .cons q t, h => by
    simp at h
    subst h
    exact ⟨_, rfl, _, rfl, q⟩
  | _, _, i + 1, r, .cons q t, h => by
    obtain ⟨v, h1, h2⟩ := rws_get i r t (by simpa using h)
    exact ⟨v, by simpa using h1, h2⟩
/-- at a def's entry -/
theorem enter {F H : Hp} {ι : List Addr} {st : List Cell} {vs : List V} {ws : List W} {n m : Nat} (hs : Same F H) (cs : Cs K F ι H st) (q : RWs K fa F ι vs ws) (hn : n - vs.length = m - ws.length) (hle : True) :
    Stt K fa ⟨F, ι, H, fun _ => False⟩ F ι ⟨ws.map (fun w => some (.w w)) ++ List.replicate (m - ws.length) none, st⟩ (vs.map some ++ List.replicate (n - vs.length) none) H := by
  have get : ∀ (i : Nat) (r : R), (ws.map (fun w => some (R.w w)) ++ List.replicate (m - ws.length) none)[i]? = some (some r) → ∃ v : V, (vs.map some ++ List.replicate (n - vs.length) none)[i]? = some (some v) ∧ ∃ w, r = .w w ∧ RW K fa F ι v w := fun i r h => by
    by_cases c : i < ws.length
    · rw [List.getElem?_append_left (by simpa using c)] at h
      obtain ⟨v, h1, h2⟩ := rws_get i r q h
      refine ⟨v, ?_, h2⟩
      rw [List.getElem?_append_left (by rw [List.length_map, q.len]; exact c)]
      exact h1
    · rw [List.getElem?_append_right (by simpa using c), List.getElem?_replicate] at h
      split at h <;> cases h
  refine { sub := hs, step := Stp.rfl, nofz := fun b o e => .inl e, len := by simp only [List.length_append, List.length_map, List.length_replicate]; rw [hn, q.len], slot := fun i r h => ?_, new := fun i xs a o' hb => ?_, dist := fun i j xs ys _ o1 o2 => ?_, st := cs.st, nfz := cs.nfz, stl := cs.stl, nd := cs.nd, res := fun b hb => hb.elim }
  · obtain ⟨v, h1, w, rfl, h3⟩ := get i r h
    exact ⟨v, h1, .w h3, fun xs z => by cases z⟩
  · obtain ⟨v, h1, w, h2, h3⟩ := get i _ o'
    cases h2
  · obtain ⟨v, h1, w, h2, h3⟩ := get i _ o1
    cases h2
theorem cal_len {k f : Nat} {d : Dfn} {ws : List W} {st : List Cell} {y : R × List Cell} (hd : D[f]? = some d) (h : call (D.map (·.df)) G wf k f ws st = some y) : ws.length = d.df.np := by
  cases k with
  | zero => simp only [call] at h; cases h
  | succ k =>
    simp only [call] at h
    rw [dfs_get hd] at h
    simp only at h
    split at h
    · assumption
    · cases h
theorem all_fn (M : Md K mg fa L G D) : ∀ (k f : Nat) (d : Dfn) (a : Addr) (fd : FuncData), D[f]? = some d → fa f = some a → FunD K d.name d.name d.params d.body d.scope [] [] a fd → FnG P w K mg base k a fd d.ps (spF (gd K fa L G D wf [] k) f)
  | 0, f, d, a, fd, hd, ha, F => by
    have no : ∀ vs H Q E, ¬ spF (gd K fa L G D wf [] 0) f vs H Q E := fun vs H Q E ⟨_, _, _, _, _, _, _, r, st', h, _⟩ => by
      cases h
    exact ⟨fun vs H Q h => (no vs H Q _ h).elim, fun A outer s H args us vs Q _ _ _ _ _ h => (no vs H Q _ h).elim⟩
  | k + 1, f, d, a, fd, hd, ha, F => by
    have ih := all_fn M k
    have ok := M.oks d (List.mem_of_getElem? hd)
    unfold Dfn.ok at ok
    simp only [Bool.and_eq_true, decide_eq_true_eq] at ok
    obtain ⟨⟨⟨h1, h2⟩, h3⟩, h4⟩ := ok
    have Sc := scB_ok h1
    have hl : ∀ vs H Q, spF (gd K fa L G D wf [] (k + 1)) f vs H Q En → vs.length = d.ps.length := fun vs H Q ⟨F, ι, st, ws, _, _, q, r, st', h, _⟩ => by
      rw [q.len, ← h3]
      exact cal_len hd h
    refine fnG_of F Sc hl fun cdv A outer s H vs Q hg hr hsp => ?_
    have O : XOk (gd K fa L G D wf d.N k) (cxOf CXn P w K mg base d.N d.name d.scope a cdv A outer s H En).nox d.scope := {
      eK := rfl
      calm := rfl
      eN := rfl
      nd := Sc.nd
      sc := rfl
      room := by have := hr.un; show (A.deeper _).units + 100 < cLine; omega
      grd := hg
      fns := fun i x hx => by
        obtain ⟨d', g1, rfl⟩ := M.fnl i x hx
        obtain ⟨b, fd', g2, g3, g4, g5⟩ := M.fns i d' g1
        exact ⟨b, g2, g3, g4.kp⟩
      fcl := fun i b hb => by
        have hlt := M.flt i b hb
        have hd' : D[i]? = some D[i] := List.getElem?_eq_getElem hlt
        obtain ⟨b', fd', g2, g3, g4, g5⟩ := M.fns i _ hd'
        have e : b' = b := Option.some.inj (g2.symm.trans hb)
        subst e
        refine ⟨g4.kp, fun Y y1 y2 y3 y4 y5 y6 => ?_⟩
        have FG := ih i _ b' fd' hd' hb g4
        rw [show P = Y.prog from y1.symm, show w = Y.w from y2.symm, show K = Y.K from y3.symm, show mg = Y.mg from y4.symm, show base = Y.base from y5.symm] at FG
        have e6 : Y.A = A.deeper (envOfC d.name d.scope s.heap.objs.size a cdv) := y6
        have y3' : Y.K = K := y3
        have cr := callG FG (by rw [e6]; exact hg) (by rw [e6]; exact hr) (by rw [y3']; exact g5)
        rw [y3'] at cr
        exact cr
      gls := M.gls
      blt := M.blt
      xe := rfl
      gcd := M.gcd }
    refine ⟨tSs (gd K fa L G D wf d.N k) d.df.body, snd_ss d.df.body _ d.scope d.body ⟨O, fun x => ⟨fun z => z, fun z => ⟨z, rfl⟩⟩, Sc.kind⟩ h2, ?_⟩
    obtain ⟨F0, ι, st, ws, e1, e2, e3, r, st', e4, e5⟩ := hsp
    have e4' : call (D.map (·.df)) G wf (k + 1) f ws st = some (r, st') := e4
    have hn := cal_len hd e4'
    simp only [call] at e4'
    rw [dfs_get hd] at e4'
    simp only at e4'
    rw [if_pos hn] at e4'
    have Hs := enter (n := d.N.length) (m := d.df.nn) e1 e2 e3 (by rw [e3.len, h4]) trivial
    rw [hn] at Hs
    have fin : ∀ (s' : S) {σ' : L2.St} {F' : Hp} {ι' : List Addr} {H' : Hp} {v : V} {r : R}, Stt K fa ⟨F0, ι, H, fun _ => False⟩ F' ι' s' σ' H' → RR K fa F' ι' H' v r → Fre ⟨F0, ι, H, fun _ => False⟩ s' σ' v r → (∀ xs, r ≠ .bor xs) → Cd K fa F0 ι H F' ι' H' s'.st v r :=
      fun s' {σ' F' ι' H' v r} S' rr fr nb => ⟨S'.step, S'.sub, S'.nofz, S'.cs, rr, fun xs b z1 z2 => (fr xs b z1 z2).1, nb⟩
    split at e4'
    · rename_i r0 s0 er
      cases e4'
      exact ⟨_, F0, ι, _, Hs, _, s0, er, fun σ' F' ι' H' S' _ v rr fr nb => e5 v F' ι' H' (fin s0 S' rr fr nb)⟩
    · rename_i s0 er
      cases e4'
      exact ⟨_, F0, ι, _, Hs, _, s0, er, fun σ' F' ι' H' S' _ => e5 .non F' ι' H' (fin s0 S' (.w (.d .non)) fre_w fun _ z => by cases z)⟩
    · cases e4'
end
end Xp

/-! E16: a law's end; the head. -/
namespace Xp
open PySem PySem.Spec PyProof.Rows L2
/-- the law, called at a script -/
theorem end_call {P : Program} {w : World} {K : PySem.W.Frag} {mg mb : Str → Option Value} {k : Nat} {fa a : Addr} {fd : FuncData} {x : Str} {sp : Sp} {s₁ : Shared} {vs : List Value} {ns : List Int}
    (kin : K.In s₁.heap) (hns : s₁.heap.Ns mainGlobals mg) (hb : s₁.heap.Ns builtinsNs mb) (hbb : ∀ x : Str, x ≠ "__name__" → mb x = bootBuiltins x) (hlim : s₁.heap.NoLimit) (hg : s₁.gens = #[])
    (ha : s₁.heap.get? a = some { cls := .type "list", data := .seq vs.toArray }) (hi : IntsAre vs ns) (hl : ns.length ≤ sizeLine) (hr : Room k callerA) (hgd : callerA.guards = some [])
    (F : ∀ base : Heap, K.In base → base.Ns mainGlobals mg → FnG P w K mg base k fa fd [x] sp) (hbind : ∀ (s : Shared) (u : Value), BindsTo s fd ⟨[u], []⟩ [(x, u)])
    (hsp : ∀ H : Hp, SqL K H a (ns.map V.int) → sp [.ref a] H (fun v _ => v = .bl true) En) :
    codeAny (model P w) callerA (.call (.ref fa) ⟨[.ref a], []⟩) (fun r s' => r = .ok (.ret (.bool true)) ∧ OldK s₁.heap s'.heap ∧ s'.os = s₁.os ∧ AllBare s'.gens) s₁ := by
  have len := hi.length
  have rel := vals_ints hi
  have go : ∀ H : Hp, (∀ b, H b = none ∨ ∃ o xs, H b = some (.frz o (.lst xs))) → SqL K H a (ns.map V.int) → HOk P w H s₁.heap → (∀ b, H b ≠ none → b = a) → (H a ≠ none → K.lookup a = none) →
      codeAny (model P w) callerA (.call (.ref fa) ⟨[.ref a], []⟩) (fun r s' => r = .ok (.ret (.bool true)) ∧ OldK s₁.heap s'.heap ∧ s'.os = s₁.os ∧ AllBare s'.gens) s₁ := by
    intro H only sq hok isA offK
    have none_of : ∀ {b : Addr}, (b = a → False) → H b = none := fun {b} nb => by
      cases q : H b with
      | none => rfl
      | some u => exact (nb (isA b (by rw [q]; exact fun z => by cases z))).elim
    have below : ∀ {b : Addr} {o : Obj}, s₁.heap.get? b = some o → H b = none → (hidT s₁.heap H).get? b = some o := hidT_get
    have nsB : ∀ {b : Addr} {m : Str → Option Value}, s₁.heap.Ns b m → (hidT s₁.heap H).Ns b m := fun {b m} ⟨o, es, ep, e, d, r⟩ => ⟨o, es, ep, below e (none_of fun z => by
      subst z
      rw [ha] at e
      cases e
      cases d), d, r⟩
    have kinB : K.In (hidT s₁.heap H) := fun b o e => below (kin b o e) (by
      cases q : H b with
      | none => rfl
      | some u =>
        have z := isA b (by rw [q]; exact fun z => by cases z)
        subst z
        rw [offK (by rw [q]; exact fun z => by cases z)] at e
        cases e)
    obtain ⟨mc, l1, l2⟩ := hlim
    have e0 : Env0 P w K mg (hidT s₁.heap H) callerA [] s₁ H := ⟨rfl, ⟨kinB, nsB hns, ⟨mb, nsB hb, hbb⟩, ⟨mc, nsB l1, l2⟩⟩, fun b o e => of_hidT e, Nat.le_of_eq (hidT_size _ _), trivial, fun b hb => absurd (show b ∈ ([] : List Addr) from hb) (by simp), hok, .of_eq hg⟩
    refine codeAny_mono ((F _ kinB (nsB hns)).run callerA [] s₁ H ⟨[.ref a], []⟩ [.ref a] [.ref a] _ hgd hr e0 (hbind s₁ (.ref a)) (.cons rfl .nil) (hsp H sq)) fun r s' h => ?_
    cases r with
    | error e => exact False.elim h
    | ok fl =>
      cases fl with
      | next => exact False.elim h
      | brk => exact False.elim h
      | cont => exact False.elim h
      | ret u =>
        obtain ⟨v, H', os, bare, un, hok', rv, q⟩ := h
        have q' : v = .bl true := q
        subst q'
        obtain rfl : u = Value.bool true := rv
        refine ⟨rfl, OldK.of_keep fun b o e => ?_, os, bare⟩
        rcases only b with z | ⟨ob, xs, z⟩
        · exact un.keep b o e z (by intro z; exact absurd (show b ∈ ([] : List Addr) from z) (by simp)) (by simp)
        · obtain ⟨e1, _⟩ := hok b _ z
          obtain ⟨e2, _⟩ := hok' b _ (un.frzs b ob _ z)
          rw [e] at e1
          cases e1
          exact e2
  have size : vs.toArray.size ≤ sizeLine := by rw [List.size_toArray, len]; exact hl
  cases hk : K.lookup a with
  | some o =>
    have e := kin a o hk
    rw [ha] at e
    cases e
    exact go (fun _ => none) (fun _ => .inl rfl) (.inr ⟨_, vs.toArray, _, hk, rfl, rfl, rfl, size, by simpa using rel⟩) (fun b u z => by have z' : (none : Option HO) = some u := z; cases z') (fun b z => absurd rfl z) fun z => absurd rfl z
  | none =>
    refine go (upd (fun _ => none) a (.frz { cls := .type "list", data := .seq vs.toArray } (.lst (ns.map V.int)))) (fun b => ?_) (.inl (.inr ⟨_, upd_same⟩)) (fun b u z => ?_) (fun b z => ?_) fun _ => hk
    · by_cases c : b = a
      · subst c
        exact .inr ⟨_, _, upd_same⟩
      · exact .inl (upd_ne c)
    · by_cases c : b = a
      · subst c
        rw [upd_same] at z
        cases z
        exact ⟨ha, by rw [List.length_map]; exact hl, vs, _, rel, ha⟩
      · rw [upd_ne c] at z
        cases z
    · by_cases c : b = a
      · exact c
      · exact absurd (upd_ne c) z
/-- the law's walk, from its promise -/
theorem end_walk {l : PySem.W.OpenLaw} {n k : Nat} {q : Program} {loose : List Str} {XP : (Str → Option Value) → Heap → Prop} {YP : World → Heap → Prop} {d : DefRec} {x : Str}
    (hn : l.most = some n) (hn2 : n ≤ sizeLine) (hdf : d.params.defaults = []) (hr : Room k callerA)
    (F : ∀ (w : World) (mg : Str → Option Value) (fa : Addr) (h : Heap), YP w h → h.Ns mainGlobals mg → mg d.name = some (.ref fa) →
      ∃ (K : PySem.W.Frag) (fd : FuncData) (sp : Sp), K.In h ∧ (∀ (s : Shared) (u : Value), BindsTo s fd ⟨[u], []⟩ [(x, u)]) ∧
        (∀ (H : Hp) (a : Addr) (ns : List Int), ns.length ≤ n → SqL K H a (ns.map V.int) → sp [.ref a] H (fun v _ => v = .bl true) En) ∧
        ∀ base : Heap, K.In base → base.Ns mainGlobals mg → FnG l.prog w K mg base k fa fd [x] sp) :
    PySem.W.WalkO q loose XP YP l.row.toRowW d [] (fun f vs => PySem.call f vs) := by
  refine Att.attach_call hn hdf fun w s₀ s₁ mg mb fa o pm cd doc a vs ns G Y ho hd hcd hmg hobj hints hlen hg => ?_
  obtain ⟨K, fd, sp, kin, hb, hsp, hF⟩ := F w mg fa _ Y G.T.g hmg
  exact end_call kin G.T.g G.T.b G.T.builtins G.T.nolimit hg hobj hints (Nat.le_trans hlen hn2) hr rfl hF hb fun H hS => hsp H a ns hlen hS

/-! ### constants of the module -/
mutual
def rd (K : PySem.W.Frag) : PyData → Value → Bool
  | .none, .none => true
  | .bool b, .bool c => b == c
  | .int i, .int j _ => decide (i = j)
  | .str x, .str y _ => decide (x = y)
  | .tuple ds, .ref a => (match K.lookup a with
    | some ⟨.type c, _, .seq its _, _⟩ => decide (c = "tuple") && decide (its.size ≤ sizeLine) && rdA K ds its.toList
    | _ => false)
  | _, _ => false
def rdA (K : PySem.W.Frag) : List PyData → List Value → Bool
  | [], [] => true
  | d :: ds, u :: us => rd K d u && rdA K ds us
  | _, _ => false
end
def val : PyData → Value → V
  | .none, _ => .non
  | .bool b, _ => .bl b
  | .int i, _ => .int i
  | .str x, _ => .str x
  | _, .ref a => .ref a
  | _, _ => .non
mutual
theorem rd_ok {K : PySem.W.Frag} : ∀ (d : PyData) (u : Value), rd K d u = true → RelV (val d u) u ∧ ∀ F, Dq K F (val d u) d
  | .none, u, h => by
    cases u <;> first | (unfold rd at h; cases h; done) | exact ⟨rfl, fun F => .non⟩
  | .bool b, u, h => by
    cases u <;> first | (unfold rd at h; cases h; done) | skip
    unfold rd at h
    cases eq_of_beq h
    exact ⟨rfl, fun F => .bl b⟩
  | .int i, u, h => by
    cases u <;> first | (unfold rd at h; cases h; done) | skip
    unfold rd at h
    cases of_decide_eq_true h
    exact ⟨⟨_, rfl⟩, fun F => .int i⟩
  | .str x, u, h => by
    cases u <;> first | (unfold rd at h; cases h; done) | skip
    unfold rd at h
    cases of_decide_eq_true h
    exact ⟨⟨_, rfl⟩, fun F => .str x⟩
  | .tuple ds, u, h => by
    cases u <;> first | (unfold rd at h; cases h; done) | skip
    rename_i a
    unfold rd at h
    split at h
    · rename_i c od its n sl q
      simp only [Bool.and_eq_true, decide_eq_true_eq] at h
      obtain ⟨⟨h1, h2⟩, h3⟩ := h
      obtain ⟨vs, r, g⟩ := rdA_ok ds its.toList h3
      exact ⟨rfl, fun F => .tup (.inr ⟨_, its, n, q, congrArg Value.type h1, rfl, h2, r⟩) (g F)⟩
    · cases h
  | .list _, u, h => by cases u <;> (unfold rd at h; cases h)
  | .dict _, u, h => by cases u <;> (unfold rd at h; cases h)
theorem rdA_ok {K : PySem.W.Frag} : ∀ (ds : List PyData) (us : List Value), rdA K ds us = true → ∃ vs, Vals vs us ∧ ∀ F, DqAll K F vs ds
  | [], [], h => ⟨[], .nil, fun F => .nil⟩
  | d :: ds, u :: us, h => by
    unfold rdA at h
    simp only [Bool.and_eq_true] at h
    obtain ⟨r, g⟩ := rd_ok d u h.1
    obtain ⟨vs, r2, g2⟩ := rdA_ok ds us h.2
    exact ⟨_ :: vs, .cons r r2, fun F => .cons (g F) (g2 F)⟩
  | [], _ :: _, h => by unfold rdA at h; cases h
  | _ :: _, [], h => by unfold rdA at h; cases h
end
def rdN (K : PySem.W.Frag) (x : Str) (d : PyData) : Bool := match PySem.W.nsIn K mainGlobals x with
  | some (some u) => rd K d u
  | _ => false
def gcN (K : PySem.W.Frag) : Bool := He.eqO (PySem.W.nsIn K mainGlobals "gcd") (some (some (.builtin "math.gcd")))
def exB (L : Lk) (G : List PyData) (K : PySem.W.Frag) : Bool := decide (L.gl.length = G.length) && (L.gl.zip G).all (fun q => rdN K q.1 q.2) && (!L.gc || gcN K)

/-! ### the head's facts -/
def dArgs : Stmt → Arguments
  | .FunctionDef (args := a) .. => a
  | _ => ⟨[], [], none, [], [], none, []⟩
def dBody : Stmt → List Stmt
  | .FunctionDef (body := b) .. => b
  | _ => []
def dScope : Stmt → Scope
  | .FunctionDef (scope := s) .. => s
  | _ => ⟨.function, [], false, false, []⟩
def dfD (d : Dfn) : He.DefD := ⟨(d.at_, none), d.name, d.name, d.params, d.body, d.scope, [], []⟩
def fnD (D : List Dfn) : List He.DefD := D.map dfD
def faD (D : List Dfn) : List He.Fa := D.map (fun d => .glo d.at_) ++ bnames.map .free
def alX (L : Lk) (G : List PyData) (D : List Dfn) (K : PySem.W.Frag) : Bool × He.AlD := (exB L G K, He.obsD (faD D) (fnD D) K)
def hookX (n : Nat) (L : Lk) (G : List PyData) (D : List Dfn) : PySem.W.Hook where
  α := Bool × He.AlD
  obs := fun s => alX L G D (He.frG s.heap.get? (He.asD s.heap.get? n))
  val := fun _ => (true, He.valD (fnD D))
  says := fun _ h => ∃ K : PySem.W.Frag, K.In h ∧ exB L G K = true ∧ He.SaysD (faD D) (fnD D) K
  of := fun _ _ e => ⟨_, He.frG_in, congrArg Prod.fst e, congrArg Prod.snd e⟩
  keeps := fun _ _ _ ⟨K, h, c⟩ k => ⟨K, PySem.W.Frag.In.keeps h k, c⟩
def obX (n : Nat) (L : Lk) (G : List PyData) (D : List Dfn) (g : Addr → Option Obj) : Bool × He.AlD := alX L G D (He.frG g (He.asD g n))
theorem obX_eq {n : Nat} {L : Lk} {G : List PyData} {D : List Dfn} {g : Addr → Option Obj} {s : Shared} (h : ∀ a, g a = s.heap.get? a) : obX n L G D g = (hookX n L G D).obs s := by
  rw [show g = s.heap.get? from funext h] <;> rfl
def argsB (d : Dfn) : Prop := ∀ (kV doc pm : Value) (an : Option Addr) (cdv ct : Value) (us : List Value), us.length = d.ps.length → bindArgs (PySem.W.fnOf d.name d.name d.params d.body d.scope .none kV doc pm an cdv ct) ⟨us, []⟩ = pure (d.ps.zip us)
/-- the module as the head's facts tell it -/
theorem md_of {K : PySem.W.Frag} {h : Heap} {mg : Str → Option Value} {L : Lk} {G : List PyData} {D : List Dfn} (X : K.In h) (Gn : h.Ns mainGlobals mg) (e : exB L G K = true) (c : He.SaysD (faD D) (fnD D) K)
    (fnl : L.fn = D.map (·.at_)) (oks : D.all (fun d => d.ok L) = true) (bs : ∀ d ∈ D, argsB d) : Md K mg (fun i => (D[i]?).map fun d => He.ga K d.at_) L G D where
  fnl := fun i x hx => by
    rw [fnl, List.getElem?_map] at hx
    cases q : D[i]? with
    | none => rw [q] at hx; cases hx
    | some d => rw [q] at hx; cases hx; exact ⟨d, rfl, rfl⟩
  fns := fun i d hd => by
    have hf : (fnD D)[i]? = some (dfD d) := by unfold fnD; rw [List.getElem?_map, hd]; rfl
    have hi : i < D.length := (List.getElem?_eq_some_iff.mp hd).1
    have hg : (faD D)[i]? = some (.glo d.at_) := by unfold faD; rw [List.getElem?_append_left (by rw [List.length_map]; exact hi), List.getElem?_map, hd]; rfl
    obtain ⟨fd, F⟩ := c.def_ i hf
    have F' : FunD K d.name d.name d.params d.body d.scope [] [] (He.ga K d.at_) fd := F
    exact ⟨He.ga K d.at_, fd, by rw [hd]; rfl, He.glo_ok X Gn (c.fact i hg), F', F'.bindsN (bs d (List.mem_of_getElem? hd))⟩
  flt := fun i a ha => by
    cases q : D[i]? with
    | none => rw [q] at ha; cases ha
    | some d => exact (List.getElem?_eq_some_iff.mp q).1
  oks := fun d hd => List.all_eq_true.mp oks d hd
  gls := fun i x hx => by
    unfold exB at e
    simp only [Bool.and_eq_true, decide_eq_true_eq] at e
    obtain ⟨⟨e1, e2⟩, e3⟩ := e
    have hi : i < L.gl.length := (List.getElem?_eq_some_iff.mp hx).1
    have hg : G[i]? = some (G[i]'(by omega)) := List.getElem?_eq_getElem _
    have hz : (L.gl.zip G)[i]? = some (x, G[i]'(by omega)) := by rw [List.getElem?_zip_eq_some]; exact ⟨hx, hg⟩
    have r := List.all_eq_true.mp e2 _ (List.mem_of_getElem? hz)
    unfold rdN at r
    split at r
    · rename_i u q
      obtain ⟨r1, r2⟩ := rd_ok _ u r
      exact ⟨u, _, _, PySem.W.mg_of X Gn q, r1, hg, r2⟩
    · cases r
  blt := fun x hx => by
    obtain ⟨j, hj⟩ := List.mem_iff_getElem?.mp hx
    exact He.free_ok X Gn (c.fact (D.length + j) (by unfold faD; rw [List.getElem?_append_right (by rw [List.length_map]; omega), List.length_map, Nat.add_sub_cancel_left, List.getElem?_map, hj]; rfl))
  gcd := fun hc => by
    unfold exB at e
    simp only [Bool.and_eq_true, decide_eq_true_eq] at e
    have e3 := e.2
    rw [hc] at e3
    exact PySem.W.mg_of X Gn (He.eqO_ok e3)
/-- the law: what the small language answers, at every script -/
theorem law_of {P : Program} {w : World} {K : PySem.W.Frag} {mg : Str → Option Value} {L : Lk} {G : List PyData} {D : List Dfn} {wf k li n : Nat} {d : Dfn} {h : Heap} {x : Str} (X : K.In h) (Gn : h.Ns mainGlobals mg) (M : Md K mg (fun i => (D[i]?).map fun d => He.ga K d.at_) L G D)
    (hd : D[li]? = some d) (hps : d.ps = [x]) (bs : argsB d) (hev : ∀ ns : List Int, ns.length ≤ n → ∃ st', call (D.map (·.df)) G wf k li [.known ns] [] = some (.w (.d (.bool true)), st')) :
    ∃ (fd : FuncData) (sp : Sp), (∀ (s : Shared) (u : Value), BindsTo s fd ⟨[u], []⟩ [(x, u)]) ∧
        (∀ (H : Hp) (a : Addr) (ns : List Int), ns.length ≤ n → SqL K H a (ns.map V.int) → sp [.ref a] H (fun v _ => v = .bl true) En) ∧
        ∀ base : Heap, K.In base → base.Ns mainGlobals mg → FnG P w K mg base k (He.ga K d.at_) fd [x] sp := by
  obtain ⟨a, fd, h1, h2, F, hb⟩ := M.fns li d hd
  rw [hd] at h1
  cases h1
  refine ⟨fd, spF (gd K (fun i => (D[i]?).map fun d => He.ga K d.at_) L G D wf [] k) li, fun s u => ?_, fun H a ns hl hS => ?_, fun base _ _ => ?_⟩
  · have := F.bindsA (ps := d.ps) bs s [u] (by rw [hps]; rfl)
    rw [hps] at this
    exact this
  · obtain ⟨st', e⟩ := hev ns hl
    refine ⟨H, [], [], [.known ns], Same.refl _, ⟨fun n xs z => (by simp at z), fun a z => (by cases z), rfl, List.nodup_nil⟩, .cons (.known hS) .nil, _, st', e, fun v F' ι' H' c => ?_⟩
    have rr := c.rr
    cases rr with
    | w q =>
    cases q with
    | d q =>
    cases q with
    | bl b => rfl
  · have := all_fn (P := P) (w := w) (base := base) (wf := wf) M k li d (He.ga K d.at_) fd hd (by rw [hd]; rfl) F
    rw [hps] at this
    exact this
end Xp

/-! E17: running the small language with unknown numbers. -/
namespace Xp
open PySem
def wp {α : Type} (x : Option (α × S)) (Q : α → S → Prop) : Prop := ∃ a s, x = some (a, s) ∧ Q a s
def wc (x : Option (R × List Cell)) (Q : R → List Cell → Prop) : Prop := ∃ r st, x = some (r, st) ∧ Q r st
theorem wp_mono {α : Type} {x : Option (α × S)} {Q Q' : α → S → Prop} (h : wp x Q) (k : ∀ a s, Q a s → Q' a s) : wp x Q' := let ⟨a, s, e, q⟩ := h; ⟨a, s, e, k a s q⟩
theorem wc_mono {x : Option (R × List Cell)} {Q Q' : R → List Cell → Prop} (h : wc x Q) (k : ∀ a s, Q a s → Q' a s) : wc x Q' := let ⟨a, s, e, q⟩ := h; ⟨a, s, e, k a s q⟩
theorem wp_some {α : Type} {a : α} {s : S} {Q : α → S → Prop} : wp (some (a, s)) Q = Q a s := propext ⟨fun ⟨_, _, e, q⟩ => by cases e; exact q, fun q => ⟨a, s, rfl, q⟩⟩
theorem wp_some1 {α : Type} {a : α} {s : S} {Q : α → S → Prop} (h : Q a s) : wp (some (a, s)) Q := ⟨a, s, rfl, h⟩
theorem wp_bd {α β : Type} {x : Option (α × S)} {f : α → S → Option (β × S)} {Q : β → S → Prop} : wp (bd x f) Q = wp x fun a s => wp (f a s) Q := propext ⟨fun ⟨b, s, e, q⟩ => by
    obtain ⟨a, s1, e1, e2⟩ := bd_some e
    exact ⟨a, s1, e1, b, s, e2, q⟩, fun ⟨a, s1, e1, b, s, e2, q⟩ => ⟨b, s, by rw [e1]; exact e2, q⟩⟩
theorem wp_ite {α : Type} {p : Prop} [Decidable p] {x y : Option (α × S)} {Q : α → S → Prop} (h1 : p → wp x Q) (h2 : ¬p → wp y Q) : wp (if p then x else y) Q := by
  by_cases c : p
  · rw [if_pos c]; exact h1 c
  · rw [if_neg c]; exact h2 c
section
variable {cal : Nat → List W → List Cell → Option (R × List Cell)} {G : List PyData} {s s' : S} {N : Nat} {Q : R → S → Prop} {QF : Fl → S → Prop}
def rdF (i : Nat) (s : S) : Option (Option R) → Option (R × S)
  | some (some (.own xs)) => some (.w (.d (.list xs)), ⟨s.sl.set i (some (.w (.d (.list xs)))), s.st⟩)
  | some (some (.w x)) => some (.w x, s)
  | _ => none
def rdB (s : S) : Option (Option R) → Option (R × S)
  | some (some (.own xs)) => some (.bor xs, s)
  | some (some (.w x)) => some (.w x, s)
  | _ => none
def rdM (i : Nat) (s : S) : Option (Option R) → Option (R × S)
  | some (some (.own xs)) => some (.own xs, ⟨s.sl.set i none, s.st⟩)
  | some (some (.w x)) => some (.w x, s)
  | _ => none
theorem w_int {i : Int} (k : Q (.i i) s) : wp (ev cal G (.int i) s) Q := ⟨_, _, rfl, k⟩
theorem w_bl {i : Bool} (k : Q (.b i) s) : wp (ev cal G (.bl i) s) Q := ⟨_, _, rfl, k⟩
theorem w_non (k : Q .n s) : wp (ev cal G .non s) Q := ⟨_, _, rfl, k⟩
theorem w_str {i : Str} (k : Q (.s i) s) : wp (ev cal G (.str i) s) Q := ⟨_, _, rfl, k⟩
theorem w_var {i : Nat} {r : R} (h : rdF i s s.sl[i]? = some (r, s')) (k : Q r s') : wp (ev cal G (.var i) s) Q := ⟨_, _, h, k⟩
theorem w_vb {i : Nat} {r : R} (h : rdB s s.sl[i]? = some (r, s')) (k : Q r s') : wp (ev cal G (.vb i) s) Q := ⟨_, _, h, k⟩
theorem w_vm {i : Nat} {r : R} (h : rdM i s s.sl[i]? = some (r, s')) (k : Q r s') : wp (ev cal G (.vm i) s) Q := ⟨_, _, h, k⟩
theorem w_glb {i : Nat} {x : PyData} (h : G[i]? = some x) (k : Q (.w (.d x)) s) : wp (ev cal G (.glb i) s) Q := ⟨.w (.d x), s, by simp only [ev, h]; rfl, k⟩
theorem w_fnv {i : Nat} (k : Q (.w (.fn i)) s) : wp (ev cal G (.fnv i) s) Q := ⟨_, _, rfl, k⟩
def op1 (f : PyData → Option R) (x : R) (s : S) (Q : R → S → Prop) : Prop := ∃ r, (x.dat s.st).bind f = some r ∧ Q r s
def op2 (f : PyData → PyData → Option R) (x y : R) (s : S) (Q : R → S → Prop) : Prop := ∃ r, ((x.dat s.st).bind fun p => (y.dat s.st).bind fun q => f p q) = some r ∧ Q r s
def opC (o : Co) (x y : R) (s : S) (Q : Bool → S → Prop) : Prop := ∃ c, ((x.dat s.st).bind fun p => (y.dat s.st).bind fun q => cmp2 o p q) = some c ∧ Q c s
def opB (x : R) (s : S) (Q : Bool → S → Prop) : Prop := ∃ c, asB s.st x = some c ∧ Q c s
def opI (x : R) (s : S) (Q : Int → S → Prop) : Prop := ∃ c, asI s.st x = some c ∧ Q c s
def opF (x : R) (s : S) (Q : W → S → Prop) : Prop := ∃ c, x.fz = some c ∧ Q c s
theorem wp_bd2 {α β : Type} {x : Option (α × S)} {f : α → S → Option (β × S)} {Q : β → S → Prop} (h : wp x fun a s => wp (f a s) Q) : wp (bd x f) Q := by rw [wp_bd]; exact h
theorem wp_on {α β : Type} {x : Option α} {s : S} {f : α → S → Option (β × S)} {Q : β → S → Prop} {a : α} (h : x = some a) (k : wp (f a s) Q) : wp (bd (on x s) f) Q := by rw [h]; exact k
theorem wp_eq {α : Type} {x : Option (α × S)} {Q : α → S → Prop} {a : α} {s : S} (h : x = some (a, s)) (k : Q a s) : wp x Q := ⟨a, s, h, k⟩
theorem wp_on1 {α : Type} {x : Option α} {s : S} {Q : α → S → Prop} {a : α} (h : x = some a) (k : Q a s) : wp (on x s) Q := ⟨a, s, by rw [h]; rfl, k⟩
theorem w_scr {a : Ex} (h : wp (ev cal G a s) fun x s1 => ∃ ns, x = .w (.known ns) ∧ Q (.own (ns.map .int)) s1) : wp (ev cal G (.scr a) s) Q := by
  simp only [ev]
  refine wp_bd2 (wp_mono h fun x s1 ⟨ns, e, k⟩ => ?_)
  subst e
  exact ⟨_, _, rfl, k⟩
theorem w_tup {es : Exs} (h : wp (evs cal G es s) fun ws s1 => ∃ ds, asD ws = some ds ∧ Q (.t ds) s1) : wp (ev cal G (.tup es) s) Q := by
  simp only [ev]
  refine wp_bd2 (wp_mono h fun x s1 ⟨ns, e, k⟩ => wp_on1 (by rw [e]; rfl) k)
theorem w_lst {es : Exs} (h : wp (evs cal G es s) fun ws s1 => ∃ ds, asD ws = some ds ∧ Q (.own ds) s1) : wp (ev cal G (.lst es) s) Q := by
  simp only [ev]
  refine wp_bd2 (wp_mono h fun x s1 ⟨ns, e, k⟩ => wp_on1 (by rw [e]; rfl) k)
theorem w_bin {o : Bo} {a b : Ex} (h : wp (ev cal G a s) fun x s1 => wp (ev cal G b s1) fun y s2 => op2 (bin2 o) x y s2 Q) : wp (ev cal G (.bin o a b) s) Q := by
  simp only [ev]
  exact wp_bd2 (wp_mono h fun x s1 h1 => wp_bd2 (wp_mono h1 fun y s2 ⟨r, e, k⟩ => wp_on1 e k))
theorem w_cmp {o : Co} {a b : Ex} (h : wp (ev cal G a s) fun x s1 => wp (ev cal G b s1) fun y s2 => opC o x y s2 fun c s3 => Q (.b c) s3) : wp (ev cal G (.cmp o a b) s) Q := by
  simp only [ev]
  refine wp_bd2 (wp_mono h fun x s1 h1 => wp_bd2 (wp_mono h1 fun y s2 ⟨r, e, k⟩ => wp_on1 (a := .b r) ?_ k))
  cases hx : x.dat s2.st with
  | none => rw [hx] at e; cases e
  | some p =>
    cases hy : y.dat s2.st with
    | none => rw [hx, hy] at e; cases e
    | some q =>
      rw [hx, hy] at e
      have e' : cmp2 o p q = some r := e
      show (cmp2 o p q).map _ = _
      rw [e']
      rfl
theorem w_cmp2 {o o2 : Co} {a b c : Ex} (h : wp (ev cal G a s) fun x s1 => wp (ev cal G b s1) fun y s2 => opC o x y s2 fun k s3 => wp (if k = true then bd (ev cal G c s3) fun z s4 => on ((y.dat s4.st).bind fun p => (z.dat s4.st).bind fun q => (cmp2 o2 p q).map fun c => R.b c) s4 else some (.b false, s3)) Q) : wp (ev cal G (.cmp2 o o2 a b c) s) Q := by
  simp only [ev]
  exact wp_bd2 (wp_mono h fun x s1 h1 => wp_bd2 (wp_mono h1 fun y s2 ⟨r, e, k⟩ => wp_on e k))
theorem w_and {a b : Ex} (h : wp (ev cal G a s) fun x s1 => opB x s1 fun k s2 => wp (if k = true then ev cal G b s2 else some (.b false, s2)) Q) : wp (ev cal G (.and a b) s) Q := by
  simp only [ev]
  exact wp_bd2 (wp_mono h fun x s1 ⟨k, e, h1⟩ => wp_on e h1)
theorem w_or {a b : Ex} (h : wp (ev cal G a s) fun x s1 => opB x s1 fun k s2 => wp (if k = true then some (.b true, s2) else ev cal G b s2) Q) : wp (ev cal G (.or a b) s) Q := by
  simp only [ev]
  exact wp_bd2 (wp_mono h fun x s1 ⟨k, e, h1⟩ => wp_on e h1)
theorem w_not {a : Ex} (h : wp (ev cal G a s) fun x s1 => opB x s1 fun k s2 => Q (.b (!k)) s2) : wp (ev cal G (.not a) s) Q := by
  simp only [ev]
  exact wp_bd2 (wp_mono h fun x s1 ⟨k, e, h1⟩ => wp_on e ⟨_, _, rfl, h1⟩)
theorem w_ite {c a b : Ex} (h : wp (ev cal G c s) fun x s1 => opB x s1 fun k s2 => wp (if k = true then ev cal G a s2 else ev cal G b s2) Q) : wp (ev cal G (.ite c a b) s) Q := by
  simp only [ev]
  exact wp_bd2 (wp_mono h fun x s1 ⟨k, e, h1⟩ => wp_on e h1)
theorem w_cal {f : Nat} {es : Exs} (h : wp (evs cal G es s) fun ws s1 => wc (cal f ws s1.st) fun r st => Q r ⟨s1.sl, st⟩) : wp (ev cal G (.cal f es) s) Q := by
  simp only [ev]
  refine wp_bd2 (wp_mono h fun ws s1 ⟨r, st, e, k⟩ => ⟨r, ⟨s1.sl, st⟩, ?_, k⟩)
  simp only [e]
theorem w_cav {i f : Nat} {es : Exs} (hf : s.sl[i]? = some (some (.w (.fn f)))) (h : wp (evs cal G es s) fun ws s1 => wc (cal f ws s1.st) fun r st => Q r ⟨s1.sl, st⟩) : wp (ev cal G (.cav i es) s) Q := by
  simp only [ev, hf]
  refine wp_bd2 (wp_mono h fun ws s1 ⟨r, st, e, k⟩ => ⟨r, ⟨s1.sl, st⟩, ?_, k⟩)
  simp only [e]
theorem w_u1 {f : U1} {a : Ex} (h : wp (ev cal G a s) fun x s1 => op1 (un1 f) x s1 Q) : wp (ev cal G (.u1 f a) s) Q := by
  simp only [ev]
  exact wp_bd2 (wp_mono h fun x s1 ⟨k, e, h1⟩ => wp_on1 e h1)
theorem w_u2 {f : U2} {a b : Ex} (h : wp (ev cal G a s) fun x s1 => wp (ev cal G b s1) fun y s2 => op2 (un2 f) x y s2 Q) : wp (ev cal G (.u2 f a b) s) Q := by
  simp only [ev]
  exact wp_bd2 (wp_mono h fun x s1 h1 => wp_bd2 (wp_mono h1 fun y s2 ⟨r, e, k⟩ => wp_on1 e k))
theorem w_ix {a b : Ex} (h : wp (ev cal G a s) fun x s1 => wp (ev cal G b s1) fun y s2 => op2 ix2 x y s2 Q) : wp (ev cal G (.ix a b) s) Q := by
  simp only [ev]
  exact wp_bd2 (wp_mono h fun x s1 h1 => wp_bd2 (wp_mono h1 fun y s2 ⟨r, e, k⟩ => wp_on1 e k))
theorem w_sl {a lo hi : Ex} (h : wp (ev cal G a s) fun x s1 => wp (evp cal G lo s1) fun l s2 => wp (evp cal G hi s2) fun h s3 => op1 (sl3 l h) x s3 Q) : wp (ev cal G (.sl a lo hi) s) Q := by
  simp only [ev]
  exact wp_bd2 (wp_mono h fun x s1 h1 => wp_bd2 (wp_mono h1 fun l s2 h2 => wp_bd2 (wp_mono h2 fun r s3 ⟨z, e, k⟩ => wp_on1 e k)))
theorem p_no {Q : Option Int → S → Prop} (k : Q none s) : wp (evp cal G .nopart s) Q := ⟨_, _, rfl, k⟩
theorem p_so {a : Ex} {Q : Option Int → S → Prop} (n : a ≠ .nopart) (h : wp (ev cal G a s) fun x s1 => opI x s1 fun i s2 => Q (some i) s2) : wp (evp cal G a s) Q := by
  rw [evp_ne n]
  exact wp_bd2 (wp_mono h fun x s1 ⟨i, e, k⟩ => wp_on1 (by rw [e]; rfl) k)
theorem es_n {Q : List W → S → Prop} (k : Q [] s) : wp (evs cal G .nil s) Q := ⟨_, _, rfl, k⟩
theorem es_c {e : Ex} {es : Exs} {Q : List W → S → Prop} (h : wp (ev cal G e s) fun x s1 => opF x s1 fun w s1 => wp (evs cal G es s1) fun ws s2 => Q (w :: ws) s2) : wp (evs cal G (.cons e es) s) Q := by
  simp only [evs]
  exact wp_bd2 (wp_mono h fun x s1 ⟨w, e, h1⟩ => wp_on e (wp_bd2 (wp_mono h1 fun ws s2 k => ⟨_, _, rfl, k⟩)))
def turnC (cal : Nat → List W → List Cell → Option (R × List Cell)) (G : List PyData) (own : List Nat) (tg : Tg) (c e : Ex) (x : PyData) (s2 : S) : Option (Option PyData × S) := bd (on (bindT tg x (wipe s2.sl own)) s2) fun l s3 => bd (ev cal G c ⟨l, s3.st⟩) fun k s4 => bd (on (asB s4.st k) s4) fun k s5 =>
        if k = true then bd (ev cal G e s5) fun y s6 => on (match y.fz with | some (.d d) => some (some d) | _ => none) s6 else some (none, s5)
theorem w_lc {own : List Nat} {tg : Tg} {it : It} {c e : Ex} (h : wp (evi cal G it s) fun xs s1 => (noOwn s1.sl own && decide (xs.length ≤ 16777215)) = true ∧ wp (lcL (turnC cal G own tg c e) xs s1) fun r s7 => Q (.own r) ⟨back s7.sl s1.sl own, s7.st⟩) : wp (ev cal G (.lc own tg it c e) s) Q := by
  simp only [ev]
  refine wp_bd2 (wp_mono h fun xs s1 ⟨h1, h2⟩ => ?_)
  simp only [Bool.and_eq_true, decide_eq_true_eq] at h1
  refine wp_on (a := xs) ?_ (wp_bd2 (wp_mono h2 fun r s7 k => ⟨_, _, rfl, k⟩))
  rw [if_pos h1.1]
  exact if_pos h1.2
theorem t_c {own : List Nat} {tg : Tg} {c e : Ex} {x : PyData} {l : List (Option R)} {Q : Option PyData → S → Prop} (hb : bindT tg x (wipe s.sl own) = some l) (h : wp (ev cal G c ⟨l, s.st⟩) fun k s4 => opB k s4 fun k s5 => wp (if k = true then bd (ev cal G e s5) fun y s6 => on (match y.fz with | some (.d d) => some (some d) | _ => none) s6 else some (none, s5)) Q) : wp (turnC cal G own tg c e x s) Q :=
  wp_on hb (wp_bd2 (wp_mono h fun k s4 ⟨b, e, k⟩ => wp_on e k))
theorem x_y {p : Bool} {Q : Prop} (h : p = true) (k : Q) : p = true ∧ Q := ⟨h, k⟩
theorem c_n {f : PyData → S → Option (Option PyData × S)} {Q : List PyData → S → Prop} (k : Q [] s) : wp (lcL f [] s) Q := ⟨_, _, rfl, k⟩
theorem c_c {f : PyData → S → Option (Option PyData × S)} {x : PyData} {xs : List PyData} {Q : List PyData → S → Prop} (h : wp (f x s) fun o s1 => wp (lcL f xs s1) fun r s2 => Q (o.toList ++ r) s2) : wp (lcL f (x :: xs) s) Q := by
  simp only [lcL]
  exact wp_bd2 (wp_mono h fun o s1 h1 => wp_bd2 (wp_mono h1 fun r s2 k => ⟨_, _, rfl, k⟩))
/-- a comprehension: what it makes of each, in their order -/
inductive Rel (P : PyData → Option PyData → Prop) : List PyData → List PyData → Prop
  | nil : Rel P [] []
  | cons {x : PyData} {y : Option PyData} {xs ys : List PyData} : P x y → Rel P xs ys → Rel P (x :: xs) (y.toList ++ ys)
theorem wp_lc {f : PyData → S → Option (Option PyData × S)} (I : S → Prop) (P : PyData → Option PyData → Prop) : ∀ (xs : List PyData) (s : S) (Q : List PyData → S → Prop), I s → (∀ x ∈ xs, ∀ s, I s → wp (f x s) fun o s' => P x o ∧ I s') → (∀ r s, Rel P xs r → I s → Q r s) → wp (lcL f xs s) Q
  | [], s, Q, h, _, k => c_n (k [] s .nil h)
  | x :: xs, s, Q, h, b, k => c_c (wp_mono (b x List.mem_cons_self s h) fun o s1 ⟨p, h1⟩ => wp_lc I P xs s1 _ h1 (fun y hy => b y (List.mem_cons_of_mem _ hy)) fun r s2 q h2 => k _ s2 (.cons p q) h2)
/-! results -/
theorem x_i {α : Type} {x : Option α} {a : α} {Q : α → Prop} (h : x = some a) (k : Q a) : ∃ b, x = some b ∧ Q b := ⟨a, h, k⟩
theorem x_s {x : Option (Fl × S)} {a : S} {Q : S → Prop} (h : x = some (.nx, a)) (k : Q a) : ∃ b, x = some (Fl.nx, b) ∧ Q b := ⟨a, h, k⟩
theorem x_k {x : R} {a : List Int} {Q : List Int → Prop} (h : x = .w (.known a)) (k : Q a) : ∃ b, x = .w (.known b) ∧ Q b := ⟨a, h, k⟩
theorem x_t {w : W} {x : PyData} {l : List (Option R)} {f : PyData → Option (List (Option R))} {Q : List (Option R) → Prop} (h : w = .d x) (h2 : f x = some l) (k : Q l) : ∃ x l, w = .d x ∧ f x = some l ∧ Q l := ⟨x, l, h, h2, k⟩
theorem x_o {r : R} {xs : List PyData} {i n : Nat} {Q : List PyData → Prop} (h : r = .own xs) (h2 : decide (i < n) = true) (k : Q xs) : ∃ xs, r = .own xs ∧ i < n ∧ Q xs := ⟨xs, h, of_decide_eq_true h2, k⟩
theorem x_u {p : Option Unit} {Q : Prop} (h : p = some ()) (k : Q) : p = some () ∧ Q := ⟨h, k⟩
theorem x_r {p : Prop} [Decidable p] {Q : Prop} (h : decide p = true) (k : Q) : p ∧ Q := ⟨of_decide_eq_true h, k⟩
/-! conditions -/
theorem c_dec {α : Type} {p : Prop} [Decidable p] {x y : Option (α × S)} {Q : α → S → Prop} (h1 : p → wp x Q) (h2 : ¬p → wp y Q) : wp (if decide p = true then x else y) Q := by
  by_cases c : p
  · rw [if_pos (decide_eq_true c)]; exact h1 c
  · rw [if_neg (by rw [decide_eq_false c]; decide)]; exact h2 c
theorem c_tr {α : Type} {x y : Option (α × S)} {Q : α → S → Prop} {b : Bool} (e : b = true) (h : wp x Q) : wp (if b = true then x else y) Q := by rw [if_pos e]; exact h
theorem c_fl {α : Type} {x y : Option (α × S)} {Q : α → S → Prop} {b : Bool} (e : b = false) (h : wp y Q) : wp (if b = true then x else y) Q := by rw [if_neg (by rw [e]; decide)]; exact h
theorem c_no {α : Type} {x y : Option (α × S)} {Q : α → S → Prop} {b : Bool} (h1 : b = true → wp x Q) (h2 : b = false → wp y Q) : wp (if b = true then x else y) Q := by
  cases b with
  | true => exact c_tr rfl (h1 rfl)
  | false => exact c_fl rfl (h2 rfl)
/-! operators -/
theorem o1 {f : PyData → Option R} {x r : R} (e : (x.dat s.st).bind f = some r) (k : Q r s) : op1 f x s Q := ⟨r, e, k⟩
theorem o2 {f : PyData → PyData → Option R} {x y r : R} (e : ((x.dat s.st).bind fun p => (y.dat s.st).bind fun q => f p q) = some r) (k : Q r s) : op2 f x y s Q := ⟨r, e, k⟩
theorem oC {o : Co} {x y : R} {c : Bool} {Q : Bool → S → Prop} (e : ((x.dat s.st).bind fun p => (y.dat s.st).bind fun q => cmp2 o p q) = some c) (k : Q c s) : opC o x y s Q := ⟨c, e, k⟩
theorem oB {x : R} {c : Bool} {Q : Bool → S → Prop} (e : asB s.st x = some c) (k : Q c s) : opB x s Q := ⟨c, e, k⟩
theorem oI {x : R} {c : Int} {Q : Int → S → Prop} (e : asI s.st x = some c) (k : Q c s) : opI x s Q := ⟨c, e, k⟩
theorem oF {x : R} {c : W} {Q : W → S → Prop} (e : x.fz = some c) (k : Q c s) : opF x s Q := ⟨c, e, k⟩
theorem o_mul {x y : R} {i j : Int} (hx : x.dat s.st = some (.int i)) (hy : y.dat s.st = some (.int j)) (h : mulOk i j = true) (k : Q (.i (i * j)) s) : op2 (bin2 .mul) x y s Q := ⟨_, by rw [hx, hy]; show (if mulOk i j = true then _ else _) = _; rw [if_pos h], k⟩
theorem o_fdiv {x y : R} {i j : Int} (hx : x.dat s.st = some (.int i)) (hy : y.dat s.st = some (.int j)) (h : divOk j = true) (k : Q (.i (i.fdiv j)) s) : op2 (bin2 .fdiv) x y s Q := ⟨_, by rw [hx, hy]; show (if divOk j = true then _ else _) = _; rw [if_pos h], k⟩
theorem o_mod {x y : R} {i j : Int} (hx : x.dat s.st = some (.int i)) (hy : y.dat s.st = some (.int j)) (h : j ≠ 0) (k : Q (.i (i.fmod j)) s) : op2 (bin2 .mod) x y s Q := ⟨_, by rw [hx, hy]; show (if j ≠ 0 then _ else _) = _; rw [if_pos h], k⟩
theorem o_addL {x y : R} {i j : List PyData} (hx : x.dat s.st = some (.list i)) (hy : y.dat s.st = some (.list j)) (h : i.length + j.length ≤ 16777216) (k : Q (.own (i ++ j)) s) : op2 (bin2 .add) x y s Q := ⟨_, by rw [hx, hy]; show (if _ then _ else _) = _; rw [if_pos h], k⟩
theorem o_ix0 {x y : R} {a : PyData} {r : List PyData} (hx : x.dat s.st = some (.tuple (a :: r))) (hy : y.dat s.st = some (.int 0)) (k : Q (.w (.d a)) s) : op2 ix2 x y s Q := ⟨.w (.d a), by
  rw [hx, hy]
  show (atD (a :: r) 0).map _ = _
  unfold atD L2.atI L2.ixN
  rw [if_pos (by decide), if_pos (by simp)]
  rfl, k⟩
theorem o_ix {x y : R} {a : PyData} {r : List PyData} {i : Int} (hx : x.dat s.st = some (.tuple r)) (hy : y.dat s.st = some (.int i)) (h : atD r i = some a) (k : Q (.w (.d a)) s) : op2 ix2 x y s Q := ⟨.w (.d a), by
  rw [hx, hy]
  show (atD r i).map _ = _
  rw [h]
  rfl, k⟩
theorem o_eqI {x y : R} {i j : Int} {Q : Bool → S → Prop} (hx : x.dat s.st = some (.int i)) (hy : y.dat s.st = some (.int j)) (k : Q (decide (i = j)) s) : opC .eq x y s Q := ⟨_, by
  rw [hx, hy]
  show (if (okEq (.int i) && okEq (.int j)) = true then some (PyData.eqv (.int i) (.int j)) else none) = _
  rw [if_pos (show (okEq (.int i) && okEq (.int j)) = true from rfl)]
  congr 1, k⟩
theorem o_neI {x y : R} {i j : Int} {Q : Bool → S → Prop} (hx : x.dat s.st = some (.int i)) (hy : y.dat s.st = some (.int j)) (k : Q (!decide (i = j)) s) : opC .ne x y s Q := ⟨_, by
  rw [hx, hy]
  show (if (okEq (.int i) && okEq (.int j)) = true then some (!PyData.eqv (.int i) (.int j)) else none) = _
  rw [if_pos (show (okEq (.int i) && okEq (.int j)) = true from rfl)]
  congr 1, k⟩
theorem o_neS {x y : R} {i : Str} {Q : Bool → S → Prop} (hx : x.dat s.st = some (.str i)) (hy : y.dat s.st = some (.str i)) (k : Q false s) : opC .ne x y s Q := ⟨_, by
  rw [hx, hy]
  show some (!decide (i = i)) = some false
  rw [decide_eq_true rfl]
  rfl, k⟩
theorem o_rep {x : R} {p : PyData} (hx : x.dat s.st = some p) (h : showOk p = true) (k : Q (.s p.shown) s) : op1 (un1 .repr) x s Q := ⟨_, by rw [hx]; show (if showOk p = true then _ else _) = _; rw [if_pos h], k⟩
theorem mulOk_l {i j : Int} (h : decide (i.natAbs < 2 ^ 64) = true) : mulOk i j = true := by unfold mulOk; rw [h]; rfl
theorem mulOk_r {i j : Int} (h : decide (j.natAbs < 2 ^ 64) = true) : mulOk i j = true := by unfold mulOk; rw [h]; simp
theorem divOk_l {j : Int} (h : (decide (j ≠ 0) && decide (j.natAbs.log2 < 9000)) = true) : divOk j = true := h
/-! statements -/
def sto (i : Nat) (s1 : S) : R → Option (Fl × S)
  | .bor _ => none
  | r => if i < s1.sl.length then some (.nx, ⟨s1.sl.set i (some r), s1.st⟩) else none
theorem s_asg {i : Nat} {e : Ex} (h : wp (ev cal G e s) fun r s1 => ∃ s2, sto i s1 r = some (.nx, s2) ∧ QF .nx s2) : wp (run cal G N (.asg (.v i) e) s) QF := by
  simp only [run]
  refine wp_bd2 (wp_mono h fun r s1 ⟨s2, e, k⟩ => ⟨.nx, s2, ?_, k⟩)
  rw [← e]
  cases r <;> rfl
def tupD : PyData → PyData
  | .list xs => .tuple xs
  | x => x
theorem s_asgT {t r : Tg} {e : Ex} (h : wp (ev cal G e s) fun r0 s1 => opF r0 s1 fun w s1 => ∃ x l, w = .d x ∧ bindT (.cons t r) (tupD x) s1.sl = some l ∧ QF .nx ⟨l, s1.st⟩) : wp (run cal G N (.asg (.cons t r) e) s) QF := by
  simp only [run]
  refine wp_bd2 (wp_mono h fun r0 s1 ⟨w, e, x, l, e1, e2, k⟩ => wp_on e ?_)
  subst e1
  cases x <;> exact wp_on e2 ⟨_, _, rfl, k⟩
theorem s_asgC {i : Nat} {e : Ex} (h : wp (ev cal G e s) fun r s1 => ∃ xs, r = .own xs ∧ i < s1.sl.length ∧ QF .nx ⟨s1.sl.set i (some (.w (.cell s1.st.length))), s1.st ++ [xs]⟩) : wp (run cal G N (.asgC i e) s) QF := by
  simp only [run]
  refine wp_bd2 (wp_mono h fun r s1 ⟨xs, e, l, k⟩ => ⟨.nx, _, ?_, k⟩)
  subst e
  simp only [if_pos l]
theorem s_par {is : List Nat} {es : Exs} (h : wp (evs cal G es s) fun ws s1 => ∃ l, setAll s1.sl is ws = some l ∧ QF .nx ⟨l, s1.st⟩) : wp (run cal G N (.par is es) s) QF := by
  simp only [run]
  exact wp_bd2 (wp_mono h fun r s1 ⟨l, e, k⟩ => wp_on e ⟨_, _, rfl, k⟩)
theorem s_exp {e : Ex} (h : wp (ev cal G e s) fun _ s1 => QF .nx s1) : wp (run cal G N (.exp e) s) QF := by
  simp only [run]
  exact wp_bd2 (wp_mono h fun r s1 k => ⟨_, _, rfl, k⟩)
def retR (s1 : S) : R → Option (Fl × S)
  | .bor _ => none
  | r => some (.rt r, s1)
theorem s_ret {e : Ex} (h : wp (ev cal G e s) fun r s1 => ∃ y, retR s1 r = some y ∧ QF y.1 y.2) : wp (run cal G N (.ret e) s) QF := by
  simp only [run]
  refine wp_bd2 (wp_mono h fun r s1 ⟨y, e, k⟩ => ⟨y.1, y.2, ?_, k⟩)
  rw [Prod.eta, ← e]
  cases r <;> rfl
theorem s_retN (k : QF (.rt .n) s) : wp (run cal G N .retN s) QF := ⟨_, _, rfl, k⟩
theorem s_ite {c : Ex} {a b : Sts} (h : wp (ev cal G c s) fun x s1 => opB x s1 fun k s1 => wp (if k = true then runs cal G N a s1 else runs cal G N b s1) QF) : wp (run cal G N (.ite c a b) s) QF := by
  simp only [run]
  exact wp_bd2 (wp_mono h fun x s1 ⟨k, e, h1⟩ => wp_on e h1)
def turnF (cal : Nat → List W → List Cell → Option (R × List Cell)) (G : List PyData) (N : Nat) (tg : Tg) (b : Sts) (x : PyData) (s2 : S) : Option (Fl × S) := bd (on (bindT tg x s2.sl) s2) fun l s3 => runs cal G N b ⟨l, s3.st⟩
theorem t_f {tg : Tg} {b : Sts} {x : PyData} {l : List (Option R)} (e : bindT tg x s.sl = some l) (h : wp (runs cal G N b ⟨l, s.st⟩) QF) : wp (turnF cal G N tg b x s) QF := wp_on e h
theorem s_for {tg : Tg} {it : It} {b : Sts} (h : wp (evi cal G it s) fun xs s1 => wp (loopL (turnF cal G N tg b) xs s1) QF) : wp (run cal G N (.for_ tg it b) s) QF := by
  simp only [run]
  exact wp_bd2 h
theorem s_brk (k : QF .bk s) : wp (run cal G N .brk s) QF := ⟨_, _, rfl, k⟩
theorem s_cnt (k : QF .ct s) : wp (run cal G N .cnt s) QF := ⟨_, _, rfl, k⟩
theorem s_pass (k : QF .nx s) : wp (run cal G N .pass s) QF := ⟨_, _, rfl, k⟩
def seqW : W → Option (List PyData)
  | .d (.list xs) => some xs
  | .d (.tuple xs) => some xs
  | _ => none
theorem i_seq {e : Ex} {Q : List PyData → S → Prop} (h : wp (ev cal G e s) fun x s1 => opF x s1 fun w s1 => ∃ xs, seqW w = some xs ∧ Q xs s1) : wp (evi cal G (.seq e) s) Q := by
  simp only [evi]
  refine wp_bd2 (wp_mono h fun x s1 ⟨w, e, xs, e2, k⟩ => wp_on e (wp_on1 ?_ k))
  rw [← e2]
  cases w with
  | d x => cases x <;> rfl
  | _ => rfl
theorem i_rng1 {e : Ex} {Q : List PyData → S → Prop} (h : wp (ev cal G e s) fun x s1 => opI x s1 fun j s1 => (j ≤ 4611686018427387903 ∧ -4611686018427387904 ≤ j) ∧ Q (rngD 0 j.toNat) s1) : wp (evi cal G (.rng1 e) s) Q := by
  simp only [evi]
  exact wp_bd2 (wp_mono h fun x s1 ⟨w, e, b, k⟩ => wp_on1 (by rw [e]; exact if_pos b) k)
theorem i_rng2 {a b : Ex} {Q : List PyData → S → Prop} (h : wp (ev cal G a s) fun x s1 => opI x s1 fun i s1 => wp (ev cal G b s1) fun y s2 => opI y s2 fun j s2 => (j ≤ 4611686018427387903 ∧ -4611686018427387904 ≤ j ∧ i ≤ 4611686018427387903 ∧ -4611686018427387904 ≤ i) ∧ Q (rngD i (j - i).toNat) s2) : wp (evi cal G (.rng2 a b) s) Q := by
  simp only [evi]
  exact wp_bd2 (wp_mono h fun x s1 ⟨w, e, h1⟩ => wp_on e (wp_bd2 (wp_mono h1 fun y s2 ⟨j, e2, b, k⟩ => wp_on1 (by rw [e2]; exact if_pos b) k)))
def wrI (s2 : S) (i : Nat) (j : Int) : W → Option (Option R) → Option (Fl × S)
  | .d x, some (some (.own xs)) => (match L2.ixN xs.length j with
    | some n => some (.nx, ⟨s2.sl.set i (some (.own (xs.set n x))), s2.st⟩)
    | none => none)
  | .d x, some (some (.w (.cell c))) => (match s2.st[c]? with
    | some xs => (match L2.ixN xs.length j with
      | some n => some (.nx, ⟨s2.sl, s2.st.set c (xs.set n x)⟩)
      | none => none)
    | none => none)
  | _, _ => none
def slB : Option (Option R) → Option Unit
  | some (some _) => some ()
  | _ => none
theorem wrI_eq {s2 : S} {i : Nat} {j : Int} {w : W} : (match w with
    | .d x => (match s2.sl[i]? with
      | some (some (.own xs)) => (match L2.ixN xs.length j with
        | some n => some (Fl.nx, (⟨s2.sl.set i (some (.own (xs.set n x))), s2.st⟩ : S))
        | none => none)
      | some (some (.w (.cell c))) => (match s2.st[c]? with
        | some xs => (match L2.ixN xs.length j with
          | some n => some (.nx, ⟨s2.sl, s2.st.set c (xs.set n x)⟩)
          | none => none)
        | none => none)
      | _ => none)
    | _ => none) = wrI s2 i j w s2.sl[i]? := by
  cases w <;> (cases s2.sl[i]? with
    | none => rfl
    | some o =>
      cases o with
      | none => rfl
      | some r => cases r with
        | w y => cases y <;> rfl
        | own => rfl
        | bor => rfl)
theorem s_setv {i : Nat} {k e : Ex} (h : wp (ev cal G e s) fun r s1 => opF r s1 fun w s1 => slB s1.sl[i]? = some () ∧ wp (ev cal G k s1) fun kr s2 => opI kr s2 fun j s2 => ∃ s3, wrI s2 i j w s2.sl[i]? = some (.nx, s3) ∧ QF .nx s3) : wp (run cal G N (.setv i k e) s) QF := by
  simp only [run]
  refine wp_bd2 (wp_mono h fun r s1 ⟨w, e, e1, h1⟩ => wp_on e (wp_on (a := ()) ?_ (wp_bd2 (wp_mono h1 fun kr s2 ⟨j, e2, s3, e3, kk⟩ => wp_on e2 ⟨.nx, s3, ?_, kk⟩))))
  · rw [← e1]
    cases s1.sl[i]? with
    | none => rfl
    | some o => cases o <;> rfl
  · rw [← e3]
    exact wrI_eq
def ownB : Option (Option R) → Option Unit
  | some (some (.own _)) => some ()
  | _ => none
def pshI (s1 : S) (i : Nat) : W → Option (Option R) → Option (Fl × S)
  | .d x, some (some (.own xs)) => if xs.length < 16777216 then some (.nx, ⟨s1.sl.set i (some (.own (xs ++ [x]))), s1.st⟩) else none
  | _, _ => none
theorem s_app {i : Nat} {e : Ex} (h0 : ownB s.sl[i]? = some ()) (h : wp (ev cal G e s) fun r s1 => opF r s1 fun w s1 => ∃ s3, pshI s1 i w s1.sl[i]? = some (.nx, s3) ∧ QF .nx s3) : wp (run cal G N (.app i e) s) QF := by
  simp only [run]
  refine wp_on (a := ()) ?_ (wp_bd2 (wp_mono h fun r s1 ⟨w, e, s3, e3, kk⟩ => wp_on e ⟨.nx, s3, ?_, kk⟩))
  · rw [← h0]
    cases s.sl[i]? with
    | none => rfl
    | some o => cases o with
      | none => rfl
      | some r => cases r <;> rfl
  · rw [← e3]
    cases w <;> (cases s1.sl[i]? with
      | none => rfl
      | some o => cases o with
        | none => rfl
        | some r => cases r <;> rfl)
theorem ss_n (k : QF .nx s) : wp (runs cal G N .nil s) QF := ⟨_, _, rfl, k⟩
def thenS (cal : Nat → List W → List Cell → Option (R × List Cell)) (G : List PyData) (N : Nat) (r : Sts) (QF : Fl → S → Prop) (f : Fl) (s1 : S) : Prop := match f with
  | .nx => wp (runs cal G N r s1) QF
  | f => QF f s1
theorem ss_c {a : St} {r : Sts} (h : wp (run cal G N a s) (thenS cal G N r QF)) : wp (runs cal G N (.cons a r) s) QF := by
  simp only [runs]
  refine wp_bd2 (wp_mono h fun f s1 k => ?_)
  cases f with
  | nx => exact k
  | bk => exact ⟨_, _, rfl, k⟩
  | ct => exact ⟨_, _, rfl, k⟩
  | rt x => exact ⟨_, _, rfl, k⟩
theorem th_nx {r : Sts} (h : wp (runs cal G N r s) QF) : thenS cal G N r QF .nx s := h
theorem th_bk {r : Sts} (h : QF .bk s) : thenS cal G N r QF .bk s := h
theorem th_ct {r : Sts} (h : QF .ct s) : thenS cal G N r QF .ct s := h
theorem th_rt {r : Sts} {x : R} (h : QF (.rt x) s) : thenS cal G N r QF (.rt x) s := h
def nextL (f : PyData → S → Option (Fl × S)) (xs : List PyData) (QF : Fl → S → Prop) (o : Fl) (s1 : S) : Prop := match o with
  | .nx => wp (loopL f xs s1) QF
  | .ct => wp (loopL f xs s1) QF
  | .bk => QF .nx s1
  | .rt r => QF (.rt r) s1
theorem l_n {f : PyData → S → Option (Fl × S)} (k : QF .nx s) : wp (loopL f [] s) QF := ⟨_, _, rfl, k⟩
theorem l_c {f : PyData → S → Option (Fl × S)} {x : PyData} {xs : List PyData} (h : wp (f x s) (nextL f xs QF)) : wp (loopL f (x :: xs) s) QF := by
  simp only [loopL]
  refine wp_bd2 (wp_mono h fun o s1 k => ?_)
  cases o with
  | nx => exact k
  | ct => exact k
  | bk => exact ⟨_, _, rfl, k⟩
  | rt x => exact ⟨_, _, rfl, k⟩
theorem nl_nx {f : PyData → S → Option (Fl × S)} {xs : List PyData} (h : wp (loopL f xs s) QF) : nextL f xs QF .nx s := h
theorem nl_ct {f : PyData → S → Option (Fl × S)} {xs : List PyData} (h : wp (loopL f xs s) QF) : nextL f xs QF .ct s := h
theorem nl_bk {f : PyData → S → Option (Fl × S)} {xs : List PyData} (h : QF .nx s) : nextL f xs QF .bk s := h
theorem nl_rt {f : PyData → S → Option (Fl × S)} {xs : List PyData} {r : R} (h : QF (.rt r) s) : nextL f xs QF (.rt r) s := h
end
/-! calls -/
def fin (Q : R → List Cell → Prop) (fl : Fl) (s : S) : Prop := match fl with
  | .rt r => Q r s.st
  | .nx => Q .n s.st
  | _ => False
theorem fin_rt {Q : R → List Cell → Prop} {r : R} {s : S} : fin Q (.rt r) s = Q r s.st := rfl
theorem fin_nx {Q : R → List Cell → Prop} {s : S} : fin Q .nx s = Q .n s.st := rfl
theorem wc_call {P : List Df} {G : List PyData} {wf k f : Nat} {d : Df} {ws : List W} {st : List Cell} {Q : R → List Cell → Prop} (h : P[f]? = some d) (hl : ws.length = d.np)
    (hw : wp (runs (call P G wf k) G wf d.body ⟨ws.map (fun w => some (.w w)) ++ List.replicate (d.nn - d.np) none, st⟩) (fin Q)) : wc (call P G wf (k + 1) f ws st) Q := by
  obtain ⟨fl, s, e, q⟩ := hw
  cases fl with
  | rt r => exact ⟨r, s.st, by simp only [call, h, if_pos hl, e], q⟩
  | nx => exact ⟨.n, s.st, by simp only [call, h, if_pos hl, e], q⟩
  | bk => exact q.elim
  | ct => exact q.elim
/-- a loop that is never left ahead of its end -/
theorem wp_loop {f : PyData → S → Option (Fl × S)} {Q : Fl → S → Prop} (I : S → Prop) : ∀ (xs : List PyData) (s : S), I s → (∀ x ∈ xs, ∀ s, I s → wp (f x s) fun fl s' => (fl = .nx ∨ fl = .ct) ∧ I s') → (∀ s, I s → Q .nx s) → wp (loopL f xs s) Q
  | [], s, h, _, k => ⟨.nx, s, rfl, k s h⟩
  | x :: xs, s, h, b, k => by
    refine l_c (wp_mono (b x List.mem_cons_self s h) fun fl s' ⟨z, h'⟩ => ?_)
    have go := wp_loop I xs s' h' (fun y hy => b y (List.mem_cons_of_mem _ hy)) k
    rcases z with rfl | rfl
    · exact go
    · exact go
/-! sizes -/
def B (k : Nat) (a : Int) : Prop := a.natAbs < 2 ^ k
theorem B.mono {j k : Nat} {a : Int} (h : B j a) (l : j ≤ k) : B k a := Nat.lt_of_lt_of_le h (Nat.pow_le_pow_right (by decide) l)
theorem B.mul {j k : Nat} {a b : Int} (h : B j a) (l : B k b) : B (j + k) (a * b) := by
  unfold B at *
  rw [Int.natAbs_mul, Nat.pow_add]
  exact Nat.mul_lt_mul'' h l
theorem B.add {j k : Nat} {a b : Int} (h : B j a) (l : B k b) : B (max j k + 1) (a + b) := by
  have h1 := h.mono (Nat.le_max_left j k)
  have h2 := l.mono (Nat.le_max_right j k)
  unfold B at *
  rw [Nat.pow_succ]
  omega
theorem B.neg {j : Nat} {a : Int} (h : B j a) : B j (-a) := by unfold B at *; omega
theorem B.sub {j k : Nat} {a b : Int} (h : B j a) (l : B k b) : B (max j k + 1) (a - b) := by
  rw [Int.sub_eq_add_neg]
  exact h.add l.neg
theorem B.le {j : Nat} {a b : Int} (h : B j a) (l : b.natAbs ≤ a.natAbs) : B j b := Nat.lt_of_le_of_lt l h
theorem B.fdiv {j : Nat} {a b : Int} (h : B j a) (hb : 0 < b) : B (j + 1) (a.fdiv b) := by
  have l1 : (a.fdiv b).natAbs ≤ a.natAbs + 1 := by
    rw [Int.fdiv_eq_ediv_of_nonneg _ (Int.le_of_lt hb)]
    have := Int.natAbs_ediv_le_natAbs a b
    omega
  unfold B at *
  rw [Nat.pow_succ]
  omega
theorem log_of {j : Nat} {a : Int} (h : B j a) : a.natAbs.log2 ≤ j := by
  by_cases c : a.natAbs = 0
  · rw [c]; exact Nat.zero_le _
  · exact Nat.le_of_lt ((Nat.log2_lt c).mpr h)
theorem mulOk_of {j k : Nat} {a b : Int} (h : B j a) (l : B k b) (n : j + k < 1000000) : mulOk a b = true := by
  unfold mulOk
  have := log_of h
  have := log_of l
  simp only [Bool.or_eq_true, decide_eq_true_eq]
  right
  omega
theorem divOk_of {j : Nat} {a : Int} (h : B j a) (n : j < 9000) (z : a ≠ 0) : divOk a = true := by
  unfold divOk
  have := log_of h
  simp only [Bool.and_eq_true, decide_eq_true_eq]
  exact ⟨z, by omega⟩
end Xp

/-! E18: while loops, further steps. -/
namespace Xp
open PySem
section
variable {cal : Nat → List W → List Cell → Option (R × List Cell)} {G : List PyData} {s s' : S} {N : Nat} {Q : R → S → Prop} {QF : Fl → S → Prop}
def testW (cal : Nat → List W → List Cell → Option (R × List Cell)) (G : List PyData) (c : Ex) (s : S) : Option (Bool × S) := bd (ev cal G c s) fun x s1 => on (asB s1.st x) s1
theorem s_whl {c : Ex} {b : Sts} (h : wp (loopW (testW cal G c) (fun s => runs cal G N b s) N s) QF) : wp (run cal G N (.whl c b) s) QF := by
  simp only [run]
  exact h
def nextW (t : S → Option (Bool × S)) (f : S → Option (Fl × S)) (n : Nat) (QF : Fl → S → Prop) (o : Fl) (s1 : S) : Prop := match o with
  | .nx => wp (loopW t f n s1) QF
  | .ct => wp (loopW t f n s1) QF
  | .bk => QF .nx s1
  | .rt r => QF (.rt r) s1
theorem lw_c {c : Ex} {f : S → Option (Fl × S)} {n : Nat} (h : wp (ev cal G c s) fun x s1 => opB x s1 fun k s1 => wp (if k = true then f s1 else some (.bk, s1)) (nextW (testW cal G c) f n QF)) : wp (loopW (testW cal G c) f (n + 1) s) QF := by
  unfold loopW
  refine wp_bd2 (wp_bd2 (wp_mono h fun x s1 ⟨k, e, h1⟩ => wp_on1 e ?_))
  cases k with
  | false =>
    rw [if_neg (by decide)] at h1 ⊢
    obtain ⟨a, s2, e2, q⟩ := h1
    cases e2
    exact ⟨_, _, rfl, q⟩
  | true =>
    rw [if_pos rfl] at h1 ⊢
    refine wp_bd2 (wp_mono h1 fun o s2 q => ?_)
    cases o with
    | nx => exact q
    | ct => exact q
    | bk => exact ⟨_, _, rfl, q⟩
    | rt r => exact ⟨_, _, rfl, q⟩
theorem nw_nx {t : S → Option (Bool × S)} {f : S → Option (Fl × S)} {n : Nat} (h : wp (loopW t f n s) QF) : nextW t f n QF .nx s := h
theorem nw_ct {t : S → Option (Bool × S)} {f : S → Option (Fl × S)} {n : Nat} (h : wp (loopW t f n s) QF) : nextW t f n QF .ct s := h
theorem nw_bk {t : S → Option (Bool × S)} {f : S → Option (Fl × S)} {n : Nat} (h : QF .nx s) : nextW t f n QF .bk s := h
theorem nw_rt {t : S → Option (Bool × S)} {f : S → Option (Fl × S)} {n : Nat} {r : R} (h : QF (.rt r) s) : nextW t f n QF (.rt r) s := h
theorem o_eqS {x y : R} {i : Str} {Q : Bool → S → Prop} (hx : x.dat s.st = some (.str i)) (hy : y.dat s.st = some (.str i)) (k : Q true s) : opC .eq x y s Q := ⟨_, by
  rw [hx, hy]
  show some (decide (i = i)) = some true
  rw [decide_eq_true rfl], k⟩
end
end Xp

/-! E19: the same steps, the slots and the shared lists told apart. -/
namespace Xp
open PySem
abbrev Sl := List (Option R)
abbrev Cl := List Cell
def wq {α : Type} (x : Option (α × S)) (Q : α → Sl → Cl → Prop) : Prop := wp x fun a s => Q a s.sl s.st
theorem wq_mono {α : Type} {x : Option (α × S)} {Q Q' : α → Sl → Cl → Prop} (h : wq x Q) (k : ∀ a l c, Q a l c → Q' a l c) : wq x Q' := wp_mono h fun a s q => k a _ _ q
/-! ### slots -/
def SetR (l : Sl) (i : Nat) (x : Option R) (l2 : Sl) : Prop := i < l.length ∧ l.set i x = l2
theorem set_z {y x : Option R} {l : Sl} : SetR (y :: l) 0 x (x :: l) := ⟨Nat.zero_lt_succ _, rfl⟩
theorem set_s {y x : Option R} {l l2 : Sl} {i : Nat} (h : SetR l i x l2) : SetR (y :: l) (i + 1) x (y :: l2) := ⟨Nat.succ_lt_succ h.1, by rw [← h.2]; rfl⟩
def SetN (l : Sl) (i : Nat) (x : Option R) (l2 : Sl) : Prop := l.set i x = l2
theorem sen_z {y x : Option R} {l : Sl} : SetN (y :: l) 0 x (x :: l) := rfl
theorem sen_s {y x : Option R} {l l2 : Sl} {i : Nat} (h : SetN l i x l2) : SetN (y :: l) (i + 1) x (y :: l2) := by
  have h' : l.set i x = l2 := h
  show (y :: l).set (i + 1) x = y :: l2
  rw [← h']
  rfl
def Wip (l : Sl) (vs : List Nat) (l2 : Sl) : Prop := wipe l vs = l2
theorem wi_n {l : Sl} : Wip l [] l := rfl
theorem wi_c {l l1 l2 : Sl} {v : Nat} {vs : List Nat} (h : Wip l vs l1) (k : SetN l1 v none l2) : Wip l (v :: vs) l2 := by
  have h' : wipe l vs = l1 := h
  have k' : l1.set v none = l2 := k
  show wipe l (v :: vs) = l2
  rw [← k', ← h']
  rfl
def GetD (l : Sl) (v : Nat) (x : Option R) : Prop := l.getD v none = x
theorem gd_z {x : Option R} {l : Sl} : GetD (x :: l) 0 x := rfl
theorem gd_s {y x : Option R} {l : Sl} {i : Nat} (h : GetD l i x) : GetD (y :: l) (i + 1) x := h
def Bck (l old : Sl) (vs : List Nat) (l2 : Sl) : Prop := back l old vs = l2
theorem bk_n {l old : Sl} : Bck l old [] l := rfl
theorem bk_c {l old l1 l2 : Sl} {v : Nat} {vs : List Nat} {x : Option R} (h : Bck l old vs l1) (g : GetD old v x) (k : SetN l1 v x l2) : Bck l old (v :: vs) l2 := by
  have h' : back l old vs = l1 := h
  have g' : old.getD v none = x := g
  have k' : l1.set v x = l2 := k
  show back l old (v :: vs) = l2
  rw [← k', ← h', ← g']
  rfl
def Bnd (tg : Tg) (x : PyData) (l l2 : Sl) : Prop := bindT tg x l = some l2
theorem bt_v {i : Nat} {x : PyData} {l l2 : Sl} (h : SetR l i (some (.w (.d x))) l2) : Bnd (.v i) x l l2 := by
  unfold Bnd
  simp only [bindT]
  rw [if_pos h.1, h.2]
theorem bt_n {l : Sl} : Bnd .nil (.tuple []) l l := rfl
theorem bt_c {t r : Tg} {x : PyData} {xs : List PyData} {l l1 l2 : Sl} (h : Bnd t x l l1) (k : Bnd r (.tuple xs) l1 l2) : Bnd (.cons t r) (.tuple (x :: xs)) l l2 := by
  unfold Bnd at *
  simp only [bindT, h, Option.bind_some, k]
def SetA (l : Sl) (is : List Nat) (ws : List W) (l2 : Sl) : Prop := setAll l is ws = some l2
theorem sa_n {l : Sl} : SetA l [] [] l := rfl
theorem sa_c {l l1 l2 : Sl} {i : Nat} {is : List Nat} {w : W} {ws : List W} (h : SetR l i (some (.w w)) l1) (k : SetA l1 is ws l2) : SetA l (i :: is) (w :: ws) l2 := by
  unfold SetA at *
  simp only [setAll]
  rw [if_pos h.1, h.2]
  exact k
def Ini (ws : List W) (n : Nat) (l : Sl) : Prop := ws.map (fun w => some (R.w w)) ++ List.replicate n none = l
theorem in_c {w : W} {ws : List W} {n : Nat} {l : Sl} (h : Ini ws n l) : Ini (w :: ws) n (some (.w w) :: l) := by
  have h' : ws.map (fun w => some (R.w w)) ++ List.replicate n none = l := h
  show _ :: (_ ++ _) = _
  rw [h']
theorem in_z : Ini [] 0 [] := rfl
theorem in_s {n : Nat} {l : Sl} (h : Ini [] n l) : Ini [] (n + 1) (none :: l) := by
  have h' : List.replicate n none = l := h
  show List.replicate (n + 1) none = _
  rw [List.replicate_succ, h']
/-! ### operands -/
def oq1 (f : PyData → Option R) (x : R) (c : Cl) (Q : R → Prop) : Prop := ∃ r, (x.dat c).bind f = some r ∧ Q r
def oq2 (f : PyData → PyData → Option R) (x y : R) (c : Cl) (Q : R → Prop) : Prop := ∃ r, ((x.dat c).bind fun p => (y.dat c).bind fun q => f p q) = some r ∧ Q r
def oqC (o : Co) (x y : R) (c : Cl) (Q : Bool → Prop) : Prop := ∃ b, ((x.dat c).bind fun p => (y.dat c).bind fun q => cmp2 o p q) = some b ∧ Q b
def oqB (x : R) (c : Cl) (Q : Bool → Prop) : Prop := ∃ b, asB c x = some b ∧ Q b
def oqI (x : R) (c : Cl) (Q : Int → Prop) : Prop := ∃ b, asI c x = some b ∧ Q b
def oqF (x : R) (Q : W → Prop) : Prop := ∃ b, x.fz = some b ∧ Q b
def wcq (x : Option (R × List Cell)) (Q : R → Cl → Prop) : Prop := wc x Q
section
variable {cal : Nat → List W → List Cell → Option (R × List Cell)} {G : List PyData} {l l1 l2 : Sl} {c : Cl} {N : Nat} {Q : R → Sl → Cl → Prop} {QF : Fl → Sl → Cl → Prop}
def GetS (l : Sl) (i : Nat) (x : Option R) : Prop := l[i]? = some x
theorem ge_z {x : Option R} {l : Sl} : GetS (x :: l) 0 x := rfl
theorem ge_s {y x : Option R} {l : Sl} {i : Nat} (h : GetS l i x) : GetS (y :: l) (i + 1) x := by
  have h' : l[i]? = some x := h
  show (y :: l)[i + 1]? = _
  rw [List.getElem?_cons_succ, h']
/-- how a slot is read -/
inductive RdV (i : Nat) (l : Sl) : Option R → R → Sl → Prop
  | w {x : W} : RdV i l (some (.w x)) (.w x) l
  | own {xs : List PyData} {l2 : Sl} : SetR l i (some (.w (.d (.list xs)))) l2 → RdV i l (some (.own xs)) (.w (.d (.list xs))) l2
inductive RdM (i : Nat) (l : Sl) : Option R → R → Sl → Prop
  | w {x : W} : RdM i l (some (.w x)) (.w x) l
  | own {xs : List PyData} {l2 : Sl} : SetR l i none l2 → RdM i l (some (.own xs)) (.own xs) l2
inductive RdB : Option R → R → Prop
  | w {x : W} : RdB (some (.w x)) (.w x)
  | own {xs : List PyData} : RdB (some (.own xs)) (.bor xs)
theorem v_int {i : Int} (k : Q (.i i) l c) : wq (ev cal G (.int i) ⟨l, c⟩) Q := w_int k
theorem v_bl {i : Bool} (k : Q (.b i) l c) : wq (ev cal G (.bl i) ⟨l, c⟩) Q := w_bl k
theorem v_non (k : Q .n l c) : wq (ev cal G .non ⟨l, c⟩) Q := w_non k
theorem v_str {i : Str} (k : Q (.s i) l c) : wq (ev cal G (.str i) ⟨l, c⟩) Q := w_str k
theorem v_var {i : Nat} {x : Option R} {r : R} (h : GetS l i x) (g : RdV i l x r l2) (k : Q r l2 c) : wq (ev cal G (.var i) ⟨l, c⟩) Q := by
  have h' : l[i]? = some x := h
  cases g with
  | w => exact w_var (s := ⟨l, c⟩) (by rw [h']; rfl) k
  | own q =>
    refine w_var (s := ⟨l, c⟩) (by rw [h']; rfl) ?_
    show Q _ (l.set i _) c
    rw [q.2]
    exact k
theorem v_vm {i : Nat} {x : Option R} {r : R} (h : GetS l i x) (g : RdM i l x r l2) (k : Q r l2 c) : wq (ev cal G (.vm i) ⟨l, c⟩) Q := by
  have h' : l[i]? = some x := h
  cases g with
  | w => exact w_vm (s := ⟨l, c⟩) (by rw [h']; rfl) k
  | own q =>
    refine w_vm (s := ⟨l, c⟩) (by rw [h']; rfl) ?_
    show Q _ (l.set i _) c
    rw [q.2]
    exact k
theorem v_vb {i : Nat} {x : Option R} {r : R} (h : GetS l i x) (g : RdB x r) (k : Q r l c) : wq (ev cal G (.vb i) ⟨l, c⟩) Q := by
  have h' : l[i]? = some x := h
  cases g with
  | w => exact w_vb (s := ⟨l, c⟩) (by rw [h']; rfl) k
  | own => exact w_vb (s := ⟨l, c⟩) (by rw [h']; rfl) k
theorem v_glb {i : Nat} {x : PyData} (h : G[i]? = some x) (k : Q (.w (.d x)) l c) : wq (ev cal G (.glb i) ⟨l, c⟩) Q := w_glb h k
theorem v_fnv {i : Nat} (k : Q (.w (.fn i)) l c) : wq (ev cal G (.fnv i) ⟨l, c⟩) Q := w_fnv k
theorem v_scr {a : Ex} (h : wq (ev cal G a ⟨l, c⟩) fun x l1 c1 => ∃ ns, x = .w (.known ns) ∧ Q (.own (ns.map .int)) l1 c1) : wq (ev cal G (.scr a) ⟨l, c⟩) Q := w_scr h
theorem v_tup {es : Exs} (h : wq (evs cal G es ⟨l, c⟩) fun ws l1 c1 => ∃ ds, asD ws = some ds ∧ Q (.t ds) l1 c1) : wq (ev cal G (.tup es) ⟨l, c⟩) Q := w_tup h
theorem v_lst {es : Exs} (h : wq (evs cal G es ⟨l, c⟩) fun ws l1 c1 => ∃ ds, asD ws = some ds ∧ Q (.own ds) l1 c1) : wq (ev cal G (.lst es) ⟨l, c⟩) Q := w_lst h
theorem v_bin {o : Bo} {a b : Ex} (h : wq (ev cal G a ⟨l, c⟩) fun x l1 c1 => wq (ev cal G b ⟨l1, c1⟩) fun y l2 c2 => oq2 (bin2 o) x y c2 fun r => Q r l2 c2) : wq (ev cal G (.bin o a b) ⟨l, c⟩) Q := w_bin h
theorem v_cmp {o : Co} {a b : Ex} (h : wq (ev cal G a ⟨l, c⟩) fun x l1 c1 => wq (ev cal G b ⟨l1, c1⟩) fun y l2 c2 => oqC o x y c2 fun r => Q (.b r) l2 c2) : wq (ev cal G (.cmp o a b) ⟨l, c⟩) Q := w_cmp h
theorem v_cmp2 {o o2 : Co} {a b e : Ex} (h : wq (ev cal G a ⟨l, c⟩) fun x l1 c1 => wq (ev cal G b ⟨l1, c1⟩) fun y l2 c2 => oqC o x y c2 fun k => wq (if k = true then bd (ev cal G e ⟨l2, c2⟩) fun z s4 => on ((y.dat s4.st).bind fun p => (z.dat s4.st).bind fun q => (cmp2 o2 p q).map fun c => R.b c) s4 else some (.b false, ⟨l2, c2⟩)) Q) : wq (ev cal G (.cmp2 o o2 a b e) ⟨l, c⟩) Q := w_cmp2 h
theorem v_cmpR {o2 : Co} {y : R} {e : Ex} (h : wq (ev cal G e ⟨l, c⟩) fun z l1 c1 => oqC o2 y z c1 fun r => Q (.b r) l1 c1) : wq (bd (ev cal G e ⟨l, c⟩) fun z s4 => on ((y.dat s4.st).bind fun p => (z.dat s4.st).bind fun q => (cmp2 o2 p q).map fun c => R.b c) s4) Q := by
  refine wp_bd2 (wp_mono h fun z s4 ⟨r, e, k⟩ => wp_on1 (a := .b r) ?_ k)
  cases hx : y.dat s4.st with
  | none => rw [hx] at e; cases e
  | some p =>
    cases hy : z.dat s4.st with
    | none => rw [hx, hy] at e; cases e
    | some q =>
      rw [hx, hy] at e
      have e' : cmp2 o2 p q = some r := e
      show (cmp2 o2 p q).map _ = _
      rw [e']
      rfl
theorem v_and {a b : Ex} (h : wq (ev cal G a ⟨l, c⟩) fun x l1 c1 => oqB x c1 fun k => wq (if k = true then ev cal G b ⟨l1, c1⟩ else some (.b false, ⟨l1, c1⟩)) Q) : wq (ev cal G (.and a b) ⟨l, c⟩) Q := w_and h
theorem v_or {a b : Ex} (h : wq (ev cal G a ⟨l, c⟩) fun x l1 c1 => oqB x c1 fun k => wq (if k = true then some (.b true, ⟨l1, c1⟩) else ev cal G b ⟨l1, c1⟩) Q) : wq (ev cal G (.or a b) ⟨l, c⟩) Q := w_or h
theorem v_not {a : Ex} (h : wq (ev cal G a ⟨l, c⟩) fun x l1 c1 => oqB x c1 fun k => Q (.b (!k)) l1 c1) : wq (ev cal G (.not a) ⟨l, c⟩) Q := w_not h
theorem v_ite {e a b : Ex} (h : wq (ev cal G e ⟨l, c⟩) fun x l1 c1 => oqB x c1 fun k => wq (if k = true then ev cal G a ⟨l1, c1⟩ else ev cal G b ⟨l1, c1⟩) Q) : wq (ev cal G (.ite e a b) ⟨l, c⟩) Q := w_ite h
theorem v_cal {f : Nat} {es : Exs} (h : wq (evs cal G es ⟨l, c⟩) fun ws l1 c1 => wcq (cal f ws c1) fun r c2 => Q r l1 c2) : wq (ev cal G (.cal f es) ⟨l, c⟩) Q := w_cal h
theorem v_cav {i f : Nat} {es : Exs} (hf : GetS l i (some (.w (.fn f)))) (h : wq (evs cal G es ⟨l, c⟩) fun ws l1 c1 => wcq (cal f ws c1) fun r c2 => Q r l1 c2) : wq (ev cal G (.cav i es) ⟨l, c⟩) Q := w_cav (s := ⟨l, c⟩) hf h
theorem v_u1 {f : U1} {a : Ex} (h : wq (ev cal G a ⟨l, c⟩) fun x l1 c1 => oq1 (un1 f) x c1 fun r => Q r l1 c1) : wq (ev cal G (.u1 f a) ⟨l, c⟩) Q := w_u1 h
theorem v_u2 {f : U2} {a b : Ex} (h : wq (ev cal G a ⟨l, c⟩) fun x l1 c1 => wq (ev cal G b ⟨l1, c1⟩) fun y l2 c2 => oq2 (un2 f) x y c2 fun r => Q r l2 c2) : wq (ev cal G (.u2 f a b) ⟨l, c⟩) Q := w_u2 h
theorem v_ix {a b : Ex} (h : wq (ev cal G a ⟨l, c⟩) fun x l1 c1 => wq (ev cal G b ⟨l1, c1⟩) fun y l2 c2 => oq2 ix2 x y c2 fun r => Q r l2 c2) : wq (ev cal G (.ix a b) ⟨l, c⟩) Q := w_ix h
theorem v_sl {a lo hi : Ex} (h : wq (ev cal G a ⟨l, c⟩) fun x l1 c1 => wq (evp cal G lo ⟨l1, c1⟩) fun i l2 c2 => wq (evp cal G hi ⟨l2, c2⟩) fun j l3 c3 => oq1 (sl3 i j) x c3 fun r => Q r l3 c3) : wq (ev cal G (.sl a lo hi) ⟨l, c⟩) Q := w_sl h
theorem vp_no {Q : Option Int → Sl → Cl → Prop} (k : Q none l c) : wq (evp cal G .nopart ⟨l, c⟩) Q := p_no k
theorem vp_so {a : Ex} {Q : Option Int → Sl → Cl → Prop} (n : a ≠ .nopart) (h : wq (ev cal G a ⟨l, c⟩) fun x l1 c1 => oqI x c1 fun i => Q (some i) l1 c1) : wq (evp cal G a ⟨l, c⟩) Q := p_so n h
theorem vs_n {Q : List W → Sl → Cl → Prop} (k : Q [] l c) : wq (evs cal G .nil ⟨l, c⟩) Q := es_n k
theorem vs_c {e : Ex} {es : Exs} {Q : List W → Sl → Cl → Prop} (h : wq (ev cal G e ⟨l, c⟩) fun x l1 c1 => oqF x fun w => wq (evs cal G es ⟨l1, c1⟩) fun ws l2 c2 => Q (w :: ws) l2 c2) : wq (evs cal G (.cons e es) ⟨l, c⟩) Q := es_c h
theorem q_some {α : Type} {a : α} {Q : α → Sl → Cl → Prop} (h : Q a l c) : wq (some (a, ⟨l, c⟩)) Q := wp_some1 h
/-! comprehensions -/
def noO : Option R → Bool
  | some (.own _) => false
  | _ => true
theorem v_lc {own : List Nat} {tg : Tg} {it : It} {t e : Ex} (h : wq (evi cal G it ⟨l, c⟩) fun xs l1 c1 => (noOwn l1 own && decide (xs.length ≤ 16777215)) = true ∧ wq (lcL (turnC cal G own tg t e) xs ⟨l1, c1⟩) fun r l7 c7 => ∃ l8, Bck l7 l1 own l8 ∧ Q (.own r) l8 c7) : wq (ev cal G (.lc own tg it t e) ⟨l, c⟩) Q :=
  w_lc (wp_mono h fun xs s1 ⟨h1, h2⟩ => ⟨h1, wp_mono h2 fun r s7 ⟨l8, hb, k⟩ => by
    have hb' : back s7.sl s1.sl own = l8 := hb
    rw [← hb'] at k
    exact k⟩)
theorem q_t {own : List Nat} {tg : Tg} {t e : Ex} {x : PyData} {Q : Option PyData → Sl → Cl → Prop} (hw : Wip l own l1) (hb : Bnd tg x l1 l2) (h : wq (ev cal G t ⟨l2, c⟩) fun k l4 c4 => oqB k c4 fun k => wq (if k = true then bd (ev cal G e ⟨l4, c4⟩) fun y s6 => on (match y.fz with | some (.d d) => some (some d) | _ => none) s6 else some (none, ⟨l4, c4⟩)) Q) : wq (turnC cal G own tg t e x ⟨l, c⟩) Q :=
  t_c (s := ⟨l, c⟩) (by have hw' : wipe l own = l1 := hw; rw [hw']; exact hb) h
def asO : W → Option (Option PyData)
  | .d d => some (some d)
  | _ => none
theorem q_e {e : Ex} {Q : Option PyData → Sl → Cl → Prop} (h : wq (ev cal G e ⟨l, c⟩) fun y l1 c1 => oqF y fun w => ∃ d, w = .d d ∧ Q (some d) l1 c1) : wq (bd (ev cal G e ⟨l, c⟩) fun y s6 => on (match y.fz with | some (.d d) => some (some d) | _ => none) s6) Q := by
  refine wp_bd2 (wp_mono h fun y s6 ⟨w, e1, d, e2, k⟩ => wp_on1 (a := some d) ?_ k)
  rw [e1, e2]
theorem ql_n {f : PyData → S → Option (Option PyData × S)} {Q : List PyData → Sl → Cl → Prop} (k : Q [] l c) : wq (lcL f [] ⟨l, c⟩) Q := c_n k
theorem ql_c {f : PyData → S → Option (Option PyData × S)} {x : PyData} {xs : List PyData} {Q : List PyData → Sl → Cl → Prop} (h : wq (f x ⟨l, c⟩) fun o l1 c1 => wq (lcL f xs ⟨l1, c1⟩) fun r l2 c2 => Q (o.toList ++ r) l2 c2) : wq (lcL f (x :: xs) ⟨l, c⟩) Q := c_c h
theorem ql_loop {f : PyData → S → Option (Option PyData × S)} (I : Sl → Cl → Prop) (P : PyData → Option PyData → Prop) {xs : List PyData} {Q : List PyData → Sl → Cl → Prop} (h : I l c) (b : ∀ x ∈ xs, ∀ l c, I l c → wq (f x ⟨l, c⟩) fun o l c => P x o ∧ I l c) (k : ∀ r l c, Rel P xs r → I l c → Q r l c) : wq (lcL f xs ⟨l, c⟩) Q :=
  wp_lc (fun s => I s.sl s.st) P xs ⟨l, c⟩ _ h (fun x hx s hs => b x hx _ _ hs) fun r s hr hs => k r _ _ hr hs
/-! statements -/
theorem t_asg {i : Nat} {e : Ex} (h : wq (ev cal G e ⟨l, c⟩) fun r l1 c1 => ∃ l2, (∀ xs, r ≠ .bor xs) ∧ SetR l1 i (some r) l2 ∧ QF .nx l2 c1) : wq (run cal G N (.asg (.v i) e) ⟨l, c⟩) QF := by
  refine s_asg (wp_mono h fun r s1 ⟨l2, nb, hs, k⟩ => ⟨⟨l2, s1.st⟩, ?_, k⟩)
  cases r with
  | w x =>
    show (if i < s1.sl.length then _ else none) = _
    rw [if_pos hs.1, hs.2]
  | own x =>
    show (if i < s1.sl.length then _ else none) = _
    rw [if_pos hs.1, hs.2]
  | bor xs => exact absurd rfl (nb xs)
theorem nb_w {x : W} : ∀ xs, R.w x ≠ .bor xs := fun _ h => by cases h
theorem nb_o {ys : List PyData} : ∀ xs, R.own ys ≠ .bor xs := fun _ h => by cases h
theorem t_asgT {t r : Tg} {e : Ex} (h : wq (ev cal G e ⟨l, c⟩) fun r0 l1 c1 => oqF r0 fun w => ∃ x l2, w = .d x ∧ Bnd (.cons t r) (tupD x) l1 l2 ∧ QF .nx l2 c1) : wq (run cal G N (.asg (.cons t r) e) ⟨l, c⟩) QF := s_asgT h
theorem t_asgC {i : Nat} {e : Ex} (h : wq (ev cal G e ⟨l, c⟩) fun r l1 c1 => ∃ xs l2, r = .own xs ∧ SetR l1 i (some (.w (.cell c1.length))) l2 ∧ QF .nx l2 (c1 ++ [xs])) : wq (run cal G N (.asgC i e) ⟨l, c⟩) QF :=
  s_asgC (wp_mono h fun r s1 ⟨xs, l2, e1, hs, k⟩ => ⟨xs, e1, hs.1, by rw [hs.2]; exact k⟩)
theorem t_par {is : List Nat} {es : Exs} (h : wq (evs cal G es ⟨l, c⟩) fun ws l1 c1 => ∃ l2, SetA l1 is ws l2 ∧ QF .nx l2 c1) : wq (run cal G N (.par is es) ⟨l, c⟩) QF := s_par h
theorem t_exp {e : Ex} (h : wq (ev cal G e ⟨l, c⟩) fun _ l1 c1 => QF .nx l1 c1) : wq (run cal G N (.exp e) ⟨l, c⟩) QF := s_exp h
theorem t_ret {e : Ex} (h : wq (ev cal G e ⟨l, c⟩) fun r l1 c1 => (∀ xs, r ≠ .bor xs) ∧ QF (.rt r) l1 c1) : wq (run cal G N (.ret e) ⟨l, c⟩) QF := by
  refine s_ret (wp_mono h fun r s1 ⟨nb, k⟩ => ⟨(.rt r, s1), ?_, k⟩)
  cases r with
  | w => rfl
  | own => rfl
  | bor xs => exact absurd rfl (nb xs)
theorem t_retN (k : QF (.rt .n) l c) : wq (run cal G N .retN ⟨l, c⟩) QF := s_retN k
theorem t_ite {e : Ex} {a b : Sts} (h : wq (ev cal G e ⟨l, c⟩) fun x l1 c1 => oqB x c1 fun k => wq (if k = true then runs cal G N a ⟨l1, c1⟩ else runs cal G N b ⟨l1, c1⟩) QF) : wq (run cal G N (.ite e a b) ⟨l, c⟩) QF := s_ite h
theorem t_for {tg : Tg} {it : It} {b : Sts} (h : wq (evi cal G it ⟨l, c⟩) fun xs l1 c1 => wq (loopL (turnF cal G N tg b) xs ⟨l1, c1⟩) QF) : wq (run cal G N (.for_ tg it b) ⟨l, c⟩) QF := s_for h
theorem t_brk (k : QF .bk l c) : wq (run cal G N .brk ⟨l, c⟩) QF := s_brk k
theorem t_cnt (k : QF .ct l c) : wq (run cal G N .cnt ⟨l, c⟩) QF := s_cnt k
theorem t_pass (k : QF .nx l c) : wq (run cal G N .pass ⟨l, c⟩) QF := s_pass k
theorem q_f {tg : Tg} {b : Sts} {x : PyData} (h1 : Bnd tg x l l1) (h : wq (runs cal G N b ⟨l1, c⟩) QF) : wq (turnF cal G N tg b x ⟨l, c⟩) QF := t_f (s := ⟨l, c⟩) h1 h
theorem vi_seq {e : Ex} {Q : List PyData → Sl → Cl → Prop} (h : wq (ev cal G e ⟨l, c⟩) fun x l1 c1 => oqF x fun w => ∃ xs, seqW w = some xs ∧ Q xs l1 c1) : wq (evi cal G (.seq e) ⟨l, c⟩) Q := i_seq h
theorem vi_rng1 {e : Ex} {Q : List PyData → Sl → Cl → Prop} (h : wq (ev cal G e ⟨l, c⟩) fun x l1 c1 => oqI x c1 fun j => (j ≤ 4611686018427387903 ∧ -4611686018427387904 ≤ j) ∧ Q (rngD 0 j.toNat) l1 c1) : wq (evi cal G (.rng1 e) ⟨l, c⟩) Q := i_rng1 h
theorem vi_rng2 {a b : Ex} {Q : List PyData → Sl → Cl → Prop} (h : wq (ev cal G a ⟨l, c⟩) fun x l1 c1 => oqI x c1 fun i => wq (ev cal G b ⟨l1, c1⟩) fun y l2 c2 => oqI y c2 fun j => (j ≤ 4611686018427387903 ∧ -4611686018427387904 ≤ j ∧ i ≤ 4611686018427387903 ∧ -4611686018427387904 ≤ i) ∧ Q (rngD i (j - i).toNat) l2 c2) : wq (evi cal G (.rng2 a b) ⟨l, c⟩) Q := i_rng2 h
theorem vi_rng3 {a b d : Ex} {Q : List PyData → Sl → Cl → Prop} (h : wq (ev cal G a ⟨l, c⟩) fun x l1 c1 => oqI x c1 fun i => wq (ev cal G b ⟨l1, c1⟩) fun y l2 c2 => oqI y c2 fun j => wq (ev cal G d ⟨l2, c2⟩) fun z l3 c3 => oqI z c3 fun k => (1 ≤ k ∧ k ≤ 1000 ∧ 0 ≤ i ∧ i ≤ 1000000 ∧ 0 ≤ j ∧ j ≤ 1000000) ∧ Q (stepD i k ((j - i + k - 1) / k).toNat) l3 c3) : wq (evi cal G (.rng3 a b d) ⟨l, c⟩) Q := by
  show wp _ _
  simp only [evi]
  refine wp_bd2 (wp_mono h fun x s1 ⟨i, e1, h1⟩ => wp_on e1 (wp_bd2 (wp_mono h1 fun y s2 ⟨j, e2, h2⟩ => wp_on e2 (wp_bd2 (wp_mono h2 fun z s3 ⟨k, e3, c, k0⟩ => wp_on1 ?_ k0)))))
  rw [e3]
  show (if _ then _ else _) = _
  rw [if_pos c]
def enumW : W → Option (List PyData)
  | .d (.list xs) => some (enumD 0 xs)
  | .d (.tuple xs) => some (enumD 0 xs)
  | _ => none
theorem vi_enum {a : Ex} {Q : List PyData → Sl → Cl → Prop} (h : wq (ev cal G a ⟨l, c⟩) fun x l1 c1 => oqF x fun w => ∃ xs, enumW w = some xs ∧ Q xs l1 c1) : wq (evi cal G (.enum a) ⟨l, c⟩) Q := by
  show wp _ _
  simp only [evi]
  refine wp_bd2 (wp_mono h fun x s1 ⟨w, e, xs, e2, k⟩ => wp_on e (wp_on1 ?_ k))
  rw [← e2]
  cases w with
  | d p => cases p <;> rfl
  | _ => rfl
def zipW : W → W → Option (List PyData)
  | .d (.list xs), .d (.list ys) => some (zipD xs ys)
  | .d (.tuple xs), .d (.tuple ys) => some (zipD xs ys)
  | _, _ => none
theorem vi_zip {a b : Ex} {Q : List PyData → Sl → Cl → Prop} (h : wq (ev cal G a ⟨l, c⟩) fun x l1 c1 => oqF x fun w => wq (ev cal G b ⟨l1, c1⟩) fun y l2 c2 => oqF y fun u => ∃ xs, zipW w u = some xs ∧ Q xs l2 c2) : wq (evi cal G (.zip a b) ⟨l, c⟩) Q := by
  show wp _ _
  simp only [evi]
  refine wp_bd2 (wp_mono h fun x s1 ⟨w, e, h1⟩ => wp_on e (wp_bd2 (wp_mono h1 fun y s2 ⟨u, e2, xs, e3, k⟩ => wp_on e2 (wp_on1 ?_ k))))
  rw [← e3]
  cases w with
  | d p => cases u with
    | d q => cases p <;> cases q <;> rfl
    | _ => cases p <;> rfl
  | _ => rfl
/-- a list is written at an index -/
inductive Wri (i : Nat) (j : Int) : W → Option R → Sl → Cl → Sl → Cl → Prop
  | own {x : PyData} {xs : List PyData} {n : Nat} {l l2 : Sl} {c : Cl} : L2.ixN xs.length j = some n → SetR l i (some (.own (xs.set n x))) l2 → Wri i j (.d x) (some (.own xs)) l c l2 c
  | cell {x : PyData} {m n : Nat} {xs : List PyData} {l : Sl} {c : Cl} : c[m]? = some xs → L2.ixN xs.length j = some n → Wri i j (.d x) (some (.w (.cell m))) l c l (c.set m (xs.set n x))
theorem t_setv {i : Nat} {k e : Ex} (h : wq (ev cal G e ⟨l, c⟩) fun r l1 c1 => oqF r fun w => ∃ y, GetS l1 i (some y) ∧ wq (ev cal G k ⟨l1, c1⟩) fun kr l2 c2 => oqI kr c2 fun j => ∃ x l3 c3, GetS l2 i x ∧ Wri i j w x l2 c2 l3 c3 ∧ QF .nx l3 c3) : wq (run cal G N (.setv i k e) ⟨l, c⟩) QF := by
  refine s_setv (wp_mono h fun r s1 ⟨w, e, y, hy, h1⟩ => ⟨w, e, ?_, wp_mono h1 fun kr s2 ⟨j, e2, x, l3, c3, hx, hw, q⟩ => ⟨j, e2, ⟨l3, c3⟩, ?_, q⟩⟩)
  · have hy' : s1.sl[i]? = some (some y) := hy
    rw [hy']
    rfl
  · have hx' : s2.sl[i]? = some x := hx
    rw [hx']
    generalize e1 : s2.sl = l2 at hw
    generalize e2 : s2.st = c2 at hw
    cases hw with
    | own a b =>
      simp only [wrI, a, e1, e2, b.2]
    | cell a b =>
      simp only [wrI, e2, a, b, e1]
theorem t_app {i : Nat} {e : Ex} {ys : List PyData} (h0 : GetS l i (some (.own ys))) (h : wq (ev cal G e ⟨l, c⟩) fun r l1 c1 => oqF r fun w => ∃ x xs l2, w = .d x ∧ GetS l1 i (some (.own xs)) ∧ xs.length < 16777216 ∧ SetR l1 i (some (.own (xs ++ [x]))) l2 ∧ QF .nx l2 c1) : wq (run cal G N (.app i e) ⟨l, c⟩) QF := by
  have h0' : l[i]? = some (some (.own ys)) := h0
  refine s_app (s := ⟨l, c⟩) (by rw [h0']; rfl) (wp_mono h fun r s1 ⟨w, e, x, xs, l2, e2, hg, hl, hs, k⟩ => ⟨w, e, ⟨l2, s1.st⟩, ?_, k⟩)
  have hg' : s1.sl[i]? = some (some (.own xs)) := hg
  rw [hg', e2]
  show (if xs.length < 16777216 then _ else _) = _
  rw [if_pos hl, hs.2]
theorem ts_n (k : QF .nx l c) : wq (runs cal G N .nil ⟨l, c⟩) QF := ss_n k
def thenQ (cal : Nat → List W → List Cell → Option (R × List Cell)) (G : List PyData) (N : Nat) (r : Sts) (QF : Fl → Sl → Cl → Prop) (f : Fl) (l : Sl) (c : Cl) : Prop := match f with
  | .nx => wq (runs cal G N r ⟨l, c⟩) QF
  | f => QF f l c
theorem ts_c {a : St} {r : Sts} (h : wq (run cal G N a ⟨l, c⟩) (thenQ cal G N r QF)) : wq (runs cal G N (.cons a r) ⟨l, c⟩) QF := ss_c (wp_mono h fun f s1 k => by
  cases f <;> exact k)
theorem th_n {r : Sts} (h : wq (runs cal G N r ⟨l, c⟩) QF) : thenQ cal G N r QF .nx l c := h
theorem th_b {r : Sts} (h : QF .bk l c) : thenQ cal G N r QF .bk l c := h
theorem th_c {r : Sts} (h : QF .ct l c) : thenQ cal G N r QF .ct l c := h
theorem th_r {r : Sts} {x : R} (h : QF (.rt x) l c) : thenQ cal G N r QF (.rt x) l c := h
def nextQ (f : PyData → S → Option (Fl × S)) (xs : List PyData) (QF : Fl → Sl → Cl → Prop) (o : Fl) (l : Sl) (c : Cl) : Prop := match o with
  | .nx => wq (loopL f xs ⟨l, c⟩) QF
  | .ct => wq (loopL f xs ⟨l, c⟩) QF
  | .bk => QF .nx l c
  | .rt r => QF (.rt r) l c
theorem lq_n {f : PyData → S → Option (Fl × S)} (k : QF .nx l c) : wq (loopL f [] ⟨l, c⟩) QF := l_n k
theorem lq_c {f : PyData → S → Option (Fl × S)} {x : PyData} {xs : List PyData} (h : wq (f x ⟨l, c⟩) (nextQ f xs QF)) : wq (loopL f (x :: xs) ⟨l, c⟩) QF := l_c (wp_mono h fun o s1 k => by
  cases o <;> exact k)
theorem nq_n {f : PyData → S → Option (Fl × S)} {xs : List PyData} (h : wq (loopL f xs ⟨l, c⟩) QF) : nextQ f xs QF .nx l c := h
theorem nq_c {f : PyData → S → Option (Fl × S)} {xs : List PyData} (h : wq (loopL f xs ⟨l, c⟩) QF) : nextQ f xs QF .ct l c := h
theorem nq_b {f : PyData → S → Option (Fl × S)} {xs : List PyData} (h : QF .nx l c) : nextQ f xs QF .bk l c := h
theorem nq_r {f : PyData → S → Option (Fl × S)} {xs : List PyData} {r : R} (h : QF (.rt r) l c) : nextQ f xs QF (.rt r) l c := h
/-- a loop that is never left ahead of its end -/
theorem lq_loop {f : PyData → S → Option (Fl × S)} (I : Sl → Cl → Prop) {xs : List PyData} (h : I l c) (b : ∀ x ∈ xs, ∀ l c, I l c → wq (f x ⟨l, c⟩) fun fl l c => (fl = .nx ∨ fl = .ct) ∧ I l c) (k : ∀ l c, I l c → QF .nx l c) : wq (loopL f xs ⟨l, c⟩) QF :=
  wp_loop (fun s => I s.sl s.st) xs ⟨l, c⟩ h (fun x hx s hs => b x hx _ _ hs) fun s hs => k _ _ hs
/-- a loop whose invariant knows what is left -/
theorem lq_step {f : PyData → S → Option (Fl × S)} (I : List PyData → Sl → Cl → Prop) (b : ∀ x xs l c, I (x :: xs) l c → wq (f x ⟨l, c⟩) fun fl l c => match fl with | .nx => I xs l c | .ct => I xs l c | .bk => QF .nx l c | .rt r => QF (.rt r) l c) (k : ∀ l c, I [] l c → QF .nx l c) : ∀ (xs : List PyData) (l : Sl) (c : Cl), I xs l c → wq (loopL f xs ⟨l, c⟩) QF
  | [], l, c, h => lq_n (k l c h)
  | x :: xs, l, c, h => lq_c (wq_mono (b x xs l c h) fun fl l1 c1 q => by
    cases fl with
    | nx => exact lq_step I b k xs l1 c1 q
    | ct => exact lq_step I b k xs l1 c1 q
    | bk => exact q
    | rt r => exact q)
/-! while -/
theorem t_whl {e : Ex} {b : Sts} (h : wq (loopW (testW cal G e) (fun s => runs cal G N b s) N ⟨l, c⟩) QF) : wq (run cal G N (.whl e b) ⟨l, c⟩) QF := s_whl h
def nextU (t : S → Option (Bool × S)) (f : S → Option (Fl × S)) (n : Nat) (QF : Fl → Sl → Cl → Prop) (o : Fl) (l : Sl) (c : Cl) : Prop := match o with
  | .nx => wq (loopW t f n ⟨l, c⟩) QF
  | .ct => wq (loopW t f n ⟨l, c⟩) QF
  | .bk => QF .nx l c
  | .rt r => QF (.rt r) l c
theorem lu_c {e : Ex} {f : S → Option (Fl × S)} {n : Nat} (h : wq (ev cal G e ⟨l, c⟩) fun x l1 c1 => oqB x c1 fun k => wq (if k = true then f ⟨l1, c1⟩ else some (.bk, ⟨l1, c1⟩)) (nextU (testW cal G e) f n QF)) : wq (loopW (testW cal G e) f (n + 1) ⟨l, c⟩) QF :=
  lw_c (wp_mono h fun x s1 ⟨k, e, q⟩ => ⟨k, e, wp_mono q fun o s2 z => by cases o <;> exact z⟩)
theorem nu_n {t : S → Option (Bool × S)} {f : S → Option (Fl × S)} {n : Nat} (h : wq (loopW t f n ⟨l, c⟩) QF) : nextU t f n QF .nx l c := h
theorem nu_c {t : S → Option (Bool × S)} {f : S → Option (Fl × S)} {n : Nat} (h : wq (loopW t f n ⟨l, c⟩) QF) : nextU t f n QF .ct l c := h
theorem nu_b {t : S → Option (Bool × S)} {f : S → Option (Fl × S)} {n : Nat} (h : QF .nx l c) : nextU t f n QF .bk l c := h
theorem nu_r {t : S → Option (Bool × S)} {f : S → Option (Fl × S)} {n : Nat} {r : R} (h : QF (.rt r) l c) : nextU t f n QF (.rt r) l c := h
end
/-! calls -/
def finQ (Q : R → Cl → Prop) (fl : Fl) (_ : Sl) (c : Cl) : Prop := match fl with
  | .rt r => Q r c
  | .nx => Q .n c
  | _ => False
theorem fi_r {Q : R → Cl → Prop} {r : R} {l : Sl} {c : Cl} (h : Q r c) : finQ Q (.rt r) l c := h
theorem fi_n {Q : R → Cl → Prop} {l : Sl} {c : Cl} (h : Q .n c) : finQ Q .nx l c := h
theorem wcq_call {P : List Df} {G : List PyData} {wf k f : Nat} {d : Df} {ws : List W} {c : Cl} {Q : R → Cl → Prop} {l : Sl} (h : P[f]? = some d) (hl : ws.length = d.np) (hi : Ini ws (d.nn - d.np) l)
    (hw : wq (runs (call P G wf k) G wf d.body ⟨l, c⟩) (finQ Q)) : wcq (call P G wf (k + 1) f ws c) Q := by
  have hi' : ws.map (fun w => some (R.w w)) ++ List.replicate (d.nn - d.np) none = l := hi
  refine wc_call h hl ?_
  rw [hi']
  exact wp_mono hw fun fl s q => by cases fl <;> exact q
theorem wcq_mono {x : Option (R × List Cell)} {Q Q' : R → Cl → Prop} (h : wcq x Q) (k : ∀ r c, Q r c → Q' r c) : wcq x Q' := wc_mono h k
/-! conditions -/
section
variable {α : Type} {x y : Option (α × S)} {Q : α → Sl → Cl → Prop}
theorem d_dec {p : Prop} [Decidable p] (h1 : p → wq x Q) (h2 : ¬p → wq y Q) : wq (if decide p = true then x else y) Q := c_dec h1 h2
theorem d_tr {b : Bool} (e : b = true) (h : wq x Q) : wq (if b = true then x else y) Q := c_tr e h
theorem d_fl {b : Bool} (e : b = false) (h : wq y Q) : wq (if b = true then x else y) Q := c_fl e h
theorem d_no {b : Bool} (h1 : b = true → wq x Q) (h2 : b = false → wq y Q) : wq (if b = true then x else y) Q := c_no h1 h2
end
/-! operators -/
section
variable {c : Cl} {Q : R → Prop}
theorem p1 {f : PyData → Option R} {x r : R} (e : (x.dat c).bind f = some r) (k : Q r) : oq1 f x c Q := ⟨r, e, k⟩
theorem p2 {f : PyData → PyData → Option R} {x y r : R} (e : ((x.dat c).bind fun p => (y.dat c).bind fun q => f p q) = some r) (k : Q r) : oq2 f x y c Q := ⟨r, e, k⟩
theorem pC {o : Co} {x y : R} {b : Bool} {Q : Bool → Prop} (e : ((x.dat c).bind fun p => (y.dat c).bind fun q => cmp2 o p q) = some b) (k : Q b) : oqC o x y c Q := ⟨b, e, k⟩
theorem pB {x : R} {b : Bool} {Q : Bool → Prop} (e : asB c x = some b) (k : Q b) : oqB x c Q := ⟨b, e, k⟩
theorem pI {x : R} {b : Int} {Q : Int → Prop} (e : asI c x = some b) (k : Q b) : oqI x c Q := ⟨b, e, k⟩
theorem pF {x : R} {b : W} {Q : W → Prop} (e : x.fz = some b) (k : Q b) : oqF x Q := ⟨b, e, k⟩
def s0 (c : Cl) : S := ⟨[], c⟩
theorem p_mul {x y : R} {i j : Int} (hx : x.dat c = some (.int i)) (hy : y.dat c = some (.int j)) (h : mulOk i j = true) (k : Q (.i (i * j))) : oq2 (bin2 .mul) x y c Q := o_mul (s := s0 c) (Q := fun r _ => Q r) hx hy h k
theorem p_fdiv {x y : R} {i j : Int} (hx : x.dat c = some (.int i)) (hy : y.dat c = some (.int j)) (h : divOk j = true) (k : Q (.i (i.fdiv j))) : oq2 (bin2 .fdiv) x y c Q := o_fdiv (s := s0 c) (Q := fun r _ => Q r) hx hy h k
theorem p_mod {x y : R} {i j : Int} (hx : x.dat c = some (.int i)) (hy : y.dat c = some (.int j)) (h : j ≠ 0) (k : Q (.i (i.fmod j))) : oq2 (bin2 .mod) x y c Q := o_mod (s := s0 c) (Q := fun r _ => Q r) hx hy h k
theorem p_addL {x y : R} {i j : List PyData} (hx : x.dat c = some (.list i)) (hy : y.dat c = some (.list j)) (h : i.length + j.length ≤ 16777216) (k : Q (.own (i ++ j))) : oq2 (bin2 .add) x y c Q := o_addL (s := s0 c) (Q := fun r _ => Q r) hx hy h k
theorem p_addT {x y : R} {i j : List PyData} (hx : x.dat c = some (.tuple i)) (hy : y.dat c = some (.tuple j)) (h : i.length + j.length ≤ 16777216) (k : Q (.t (i ++ j))) : oq2 (bin2 .add) x y c Q := ⟨_, by rw [hx, hy]; show (if _ then _ else _) = _; rw [if_pos h], k⟩
theorem p_ix0 {x y : R} {a : PyData} {r : List PyData} (hx : x.dat c = some (.tuple (a :: r))) (hy : y.dat c = some (.int 0)) (k : Q (.w (.d a))) : oq2 ix2 x y c Q := o_ix0 (s := s0 c) (Q := fun r _ => Q r) hx hy k
theorem p_ix {x y : R} {a : PyData} {r : List PyData} {i : Int} (hx : x.dat c = some (.tuple r)) (hy : y.dat c = some (.int i)) (h : atD r i = some a) (k : Q (.w (.d a))) : oq2 ix2 x y c Q := o_ix (s := s0 c) (Q := fun r _ => Q r) hx hy h k
theorem p_ixL {x y : R} {a : PyData} {r : List PyData} {i : Int} (hx : x.dat c = some (.list r)) (hy : y.dat c = some (.int i)) (h : atD r i = some a) (k : Q (.w (.d a))) : oq2 ix2 x y c Q := ⟨.w (.d a), by
  rw [hx, hy]
  show (atD r i).map _ = _
  rw [h]
  rfl, k⟩
theorem p_rep {x : R} {p : PyData} (hx : x.dat c = some p) (h : showOk p = true) (k : Q (.s p.shown)) : oq1 (un1 .repr) x c Q := o_rep (s := s0 c) (Q := fun r _ => Q r) hx h k
end
section
variable {c : Cl} {Q : Bool → Prop}
theorem p_eqI {x y : R} {i j : Int} (hx : x.dat c = some (.int i)) (hy : y.dat c = some (.int j)) (k : Q (decide (i = j))) : oqC .eq x y c Q := o_eqI (s := s0 c) (Q := fun r _ => Q r) hx hy k
theorem p_neI {x y : R} {i j : Int} (hx : x.dat c = some (.int i)) (hy : y.dat c = some (.int j)) (k : Q (!decide (i = j))) : oqC .ne x y c Q := o_neI (s := s0 c) (Q := fun r _ => Q r) hx hy k
theorem p_neS {x y : R} {i : Str} (hx : x.dat c = some (.str i)) (hy : y.dat c = some (.str i)) (k : Q false) : oqC .ne x y c Q := o_neS (s := s0 c) (Q := fun r _ => Q r) hx hy k
theorem p_eqS {x y : R} {i : Str} (hx : x.dat c = some (.str i)) (hy : y.dat c = some (.str i)) (k : Q true) : oqC .eq x y c Q := o_eqS (s := s0 c) (Q := fun r _ => Q r) hx hy k
end
/-! ### lists that are written out -/
def AppL (xs : List PyData) (x : PyData) (ys : List PyData) : Prop := xs ++ [x] = ys
theorem al_z {x : PyData} : AppL [] x [x] := rfl
theorem al_s {x y : PyData} {xs ys : List PyData} (h : AppL xs x ys) : AppL (y :: xs) x (y :: ys) := by
  have h' : xs ++ [x] = ys := h
  show y :: (xs ++ [x]) = _
  rw [h']
theorem al_v {x : PyData} {xs : List PyData} : AppL xs x (xs ++ [x]) := rfl
def Cat (i j k : List PyData) : Prop := i ++ j = k
theorem ct_n {j : List PyData} : Cat [] j j := rfl
theorem ct_e {j : List PyData} : Cat j [] j := List.append_nil _
theorem ct_c {x : PyData} {i j k : List PyData} (h : Cat i j k) : Cat (x :: i) j (x :: k) := by
  have h' : i ++ j = k := h
  show x :: (i ++ j) = _
  rw [h']
theorem ct_v {i j : List PyData} : Cat i j (i ++ j) := rfl
section
variable {c : Cl} {Q : R → Prop}
theorem p_catT {x y : R} {i j k : List PyData} (hx : x.dat c = some (.tuple i)) (hy : y.dat c = some (.tuple j)) (hk : Cat i j k) (h : decide (i.length + j.length ≤ 16777216) = true) (q : Q (.t k)) : oq2 (bin2 .add) x y c Q := by
  have hk' : i ++ j = k := hk
  exact p_addT hx hy (of_decide_eq_true h) (by rw [hk']; exact q)
theorem p_catL {x y : R} {i j k : List PyData} (hx : x.dat c = some (.list i)) (hy : y.dat c = some (.list j)) (hk : Cat i j k) (h : decide (i.length + j.length ≤ 16777216) = true) (q : Q (.own k)) : oq2 (bin2 .add) x y c Q := by
  have hk' : i ++ j = k := hk
  exact p_addL hx hy (of_decide_eq_true h) (by rw [hk']; exact q)
theorem p_inT {x y : R} {p : PyData} {xs : List PyData} {Q : Bool → Prop} (hx : x.dat c = some p) (hy : y.dat c = some (.tuple xs)) (h : (okEq p && okEq (.list xs)) = true) (k : Q (xs.any fun y => PyData.eqv y p)) : oqC .isin x y c Q := ⟨_, by rw [hx, hy]; show (if (okEq p && okEq (.list xs)) = true then _ else _) = _; rw [if_pos h], k⟩
theorem p_niT {x y : R} {p : PyData} {xs : List PyData} {Q : Bool → Prop} (hx : x.dat c = some p) (hy : y.dat c = some (.tuple xs)) (h : (okEq p && okEq (.list xs)) = true) (k : Q (!xs.any fun y => PyData.eqv y p)) : oqC .notin x y c Q := ⟨_, by rw [hx, hy]; show Option.map _ (if (okEq p && okEq (.list xs)) = true then _ else _) = _; rw [if_pos h]; rfl, k⟩
theorem p_inL {x y : R} {p : PyData} {xs : List PyData} {Q : Bool → Prop} (hx : x.dat c = some p) (hy : y.dat c = some (.list xs)) (h : (okEq p && okEq (.list xs)) = true) (k : Q (xs.any fun y => PyData.eqv y p)) : oqC .isin x y c Q := ⟨_, by rw [hx, hy]; show (if (okEq p && okEq (.list xs)) = true then _ else _) = _; rw [if_pos h], k⟩
theorem p_niL {x y : R} {p : PyData} {xs : List PyData} {Q : Bool → Prop} (hx : x.dat c = some p) (hy : y.dat c = some (.list xs)) (h : (okEq p && okEq (.list xs)) = true) (k : Q (!xs.any fun y => PyData.eqv y p)) : oqC .notin x y c Q := ⟨_, by rw [hx, hy]; show Option.map _ (if (okEq p && okEq (.list xs)) = true then _ else _) = _; rw [if_pos h]; rfl, k⟩
end
theorem len_ok {p : Prop} [Decidable p] (h : decide p = true) : decide p = true := h
/-! results -/
section
variable {l l1 l2 : Sl} {c : Cl} {Q : Sl → Prop}
theorem z_b {l7 old l8 : Sl} {own : List Nat} (h : Bck l7 old own l8) (k : Q l8) : ∃ l8, Bck l7 old own l8 ∧ Q l8 := ⟨l8, h, k⟩
def AsD (ws : List W) (ds : List PyData) : Prop := asD ws = some ds
theorem ad_n : AsD [] [] := rfl
theorem ad_c {x : PyData} {ws : List W} {ds : List PyData} (h : AsD ws ds) : AsD (.d x :: ws) (x :: ds) := by
  have h' : asD ws = some ds := h
  show (asD ws).map _ = _
  rw [h']
  rfl
theorem z_as {ws : List W} {ds : List PyData} {Q : List PyData → Prop} (h : AsD ws ds) (k : Q ds) : ∃ ds, asD ws = some ds ∧ Q ds := ⟨ds, h, k⟩
theorem z_d {x : PyData} {Q : PyData → Prop} (k : Q x) : ∃ d, W.d x = .d d ∧ Q d := ⟨x, rfl, k⟩
theorem z_l {xs : List PyData} {Q : List PyData → Prop} (k : Q xs) : ∃ ys, W.d (.list xs) = .d (.list ys) ∧ Q ys := ⟨xs, rfl, k⟩
theorem z_aw {i : Nat} {x : W} (h : SetR l1 i (some (.w x)) l2) (k : Q l2) : ∃ l2, (∀ xs, R.w x ≠ .bor xs) ∧ SetR l1 i (some (.w x)) l2 ∧ Q l2 := ⟨l2, nb_w, h, k⟩
theorem z_ao {i : Nat} {ys : List PyData} (h : SetR l1 i (some (.own ys)) l2) (k : Q l2) : ∃ l2, (∀ xs, R.own ys ≠ .bor xs) ∧ SetR l1 i (some (.own ys)) l2 ∧ Q l2 := ⟨l2, nb_o, h, k⟩
theorem z_tt {t r : Tg} {xs : List PyData} (h : Bnd (.cons t r) (.tuple xs) l1 l2) (k : Q l2) : ∃ x l2, W.d (.tuple xs) = .d x ∧ Bnd (.cons t r) (tupD x) l1 l2 ∧ Q l2 := ⟨_, l2, rfl, h, k⟩
theorem z_tl {t r : Tg} {xs : List PyData} (h : Bnd (.cons t r) (.tuple xs) l1 l2) (k : Q l2) : ∃ x l2, W.d (.list xs) = .d x ∧ Bnd (.cons t r) (tupD x) l1 l2 ∧ Q l2 := ⟨_, l2, rfl, h, k⟩
theorem z_c0 {i : Nat} {xs : List PyData} {Q : Sl → Cl → Prop} (h : SetR l1 i (some (.w (.cell 0))) l2) (k : Q l2 [xs]) : ∃ ys l2, R.own xs = .own ys ∧ SetR l1 i (some (.w (.cell ([] : Cl).length))) l2 ∧ Q l2 (([] : Cl) ++ [ys]) := ⟨xs, l2, rfl, h, k⟩
theorem z_p {is : List Nat} {ws : List W} (h : SetA l1 is ws l2) (k : Q l2) : ∃ l2, SetA l1 is ws l2 ∧ Q l2 := ⟨l2, h, k⟩
theorem z_rw {x : W} {Q : Prop} (k : Q) : (∀ xs, R.w x ≠ .bor xs) ∧ Q := ⟨nb_w, k⟩
theorem z_ro {ys : List PyData} {Q : Prop} (k : Q) : (∀ xs, R.own ys ≠ .bor xs) ∧ Q := ⟨nb_o, k⟩
theorem z_g {i : Nat} {y : R} {Q : Prop} (h : GetS l i (some y)) (k : Q) : ∃ y, GetS l i (some y) ∧ Q := ⟨y, h, k⟩
theorem z_w {i : Nat} {j : Int} {w : W} {x : Option R} {l3 : Sl} {c3 : Cl} {Q : Sl → Cl → Prop} (h : GetS l i x) (g : Wri i j w x l c l3 c3) (k : Q l3 c3) : ∃ x l3 c3, GetS l i x ∧ Wri i j w x l c l3 c3 ∧ Q l3 c3 := ⟨x, l3, c3, h, g, k⟩
theorem wr_0 {i : Nat} {x y : PyData} {ys : List PyData} {t : Cl} : Wri i 0 (.d x) (some (.w (.cell 0))) l ((y :: ys) :: t) l ((x :: ys) :: t) := by
  have := Wri.cell (i := i) (j := 0) (x := x) (m := 0) (n := 0) (xs := y :: ys) (l := l) (c := (y :: ys) :: t) rfl (by unfold L2.ixN; rw [if_pos (by decide), if_pos (by simp)]; rfl)
  exact this
theorem wr_1 {i : Nat} {x y z : PyData} {ys : List PyData} {t : Cl} : Wri i 1 (.d x) (some (.w (.cell 0))) l ((y :: z :: ys) :: t) l ((y :: x :: ys) :: t) := by
  have := Wri.cell (i := i) (j := 1) (x := x) (m := 0) (n := 1) (xs := y :: z :: ys) (l := l) (c := (y :: z :: ys) :: t) rfl (by unfold L2.ixN; rw [if_pos (by decide), if_pos (by simp; omega)]; rfl)
  exact this
theorem z_ap {i : Nat} {x : PyData} {xs ys : List PyData} (h : GetS l i (some (.own xs))) (hl : decide (xs.length < 16777216) = true) (ha : AppL xs x ys) (hs : SetR l i (some (.own ys)) l2) (k : Q l2) : ∃ x' xs l2, W.d x = .d x' ∧ GetS l i (some (.own xs)) ∧ xs.length < 16777216 ∧ SetR l i (some (.own (xs ++ [x']))) l2 ∧ Q l2 := by
  have ha' : xs ++ [x] = ys := ha
  exact ⟨x, xs, l2, rfl, h, of_decide_eq_true hl, by rw [ha']; exact hs, k⟩
end
/-- behind an item of a comprehension -/
def thenL (f : PyData → S → Option (Option PyData × S)) (xs : List PyData) (Q : List PyData → Sl → Cl → Prop) (o : Option PyData) (l : Sl) (c : Cl) : Prop := wq (lcL f xs ⟨l, c⟩) fun r l2 c2 => Q (o.toList ++ r) l2 c2
theorem ql_u {f : PyData → S → Option (Option PyData × S)} {x : PyData} {xs : List PyData} {l : Sl} {c : Cl} {Q : List PyData → Sl → Cl → Prop} (h : wq (f x ⟨l, c⟩) (thenL f xs Q)) : wq (lcL f (x :: xs) ⟨l, c⟩) Q := ql_c h
theorem tl_s {f : PyData → S → Option (Option PyData × S)} {xs : List PyData} {d : PyData} {l : Sl} {c : Cl} {Q : List PyData → Sl → Cl → Prop} (h : wq (lcL f xs ⟨l, c⟩) fun r => Q (d :: r)) : thenL f xs Q (some d) l c := h
theorem tl_n {f : PyData → S → Option (Option PyData × S)} {xs : List PyData} {l : Sl} {c : Cl} {Q : List PyData → Sl → Cl → Prop} (h : wq (lcL f xs ⟨l, c⟩) Q) : thenL f xs Q none l c := h
/-- as a comprehension's list, item by item -/
theorem rng_s {n : Nat} {i j : Int} {xs : List PyData} (e : i + 1 = j) (h : rngD j n = xs) : rngD i (n + 1) = .int i :: xs := by
  show PyData.int i :: rngD (i + 1) n = _
  rw [e, h]
end Xp

/-! E20: what must hold, as functions that are run. -/
namespace Xp
open PySem
/-- a condition on the way -/
structure Sd (A B : Prop) : Prop where
  a : A
  b : B
/-! ### slots, run to their end -/
def getK : Sl → Nat → (Option R → Prop) → Prop
  | [], _, _ => False
  | x :: _, 0, k => k x
  | _ :: l, i + 1, k => getK l i k
def setK : Sl → Nat → Option R → (Sl → Prop) → Prop
  | [], _, _, _ => False
  | _ :: l, 0, x, k => k (x :: l)
  | y :: l, i + 1, x, k => setK l i x fun l2 => k (y :: l2)
/-- out of reach nothing is set -/
def senK : Sl → Nat → Option R → (Sl → Prop) → Prop
  | [], _, _, k => k []
  | _ :: l, 0, x, k => k (x :: l)
  | y :: l, i + 1, x, k => senK l i x fun l2 => k (y :: l2)
def gedK : Sl → Nat → (Option R → Prop) → Prop
  | [], _, k => k none
  | x :: _, 0, k => k x
  | _ :: l, i + 1, k => gedK l i k
def wipK (l : Sl) : List Nat → (Sl → Prop) → Prop
  | [], k => k l
  | v :: vs, k => wipK l vs fun l1 => senK l1 v none k
def bckK (l old : Sl) : List Nat → (Sl → Prop) → Prop
  | [], k => k l
  | v :: vs, k => bckK l old vs fun l1 => gedK old v fun x => senK l1 v x k
def bndK : Tg → PyData → Sl → (Sl → Prop) → Prop
  | .v i, x, l, k => setK l i (some (.w (.d x))) k
  | .nil, x, l, k => (match x with
    | .tuple [] => k l
    | _ => False)
  | .cons t r, x, l, k => (match x with
    | .tuple (x :: xs) => bndK t x l fun l1 => bndK r (.tuple xs) l1 k
    | _ => False)
def sallK : Sl → List Nat → List W → (Sl → Prop) → Prop
  | l, [], [], k => k l
  | l, i :: is, w :: ws, k => setK l i (some (.w w)) fun l1 => sallK l1 is ws k
  | _, _, _, _ => False
def iniN : Nat → (Sl → Prop) → Prop
  | 0, k => k []
  | n + 1, k => iniN n fun l => k (none :: l)
def iniK : List W → Nat → (Sl → Prop) → Prop
  | [], n, k => iniN n k
  | w :: ws, n, k => iniK ws n fun l => k (some (.w w) :: l)
def asDK : List W → (List PyData → Prop) → Prop
  | [], k => k []
  | .d x :: ws, k => asDK ws fun ds => k (x :: ds)
  | _, _ => False
def noOK : Sl → List Nat → Prop → Prop
  | _, [], k => k
  | l, v :: vs, k => gedK l v fun o => (match o with
    | some (.own _) => False
    | _ => noOK l vs k)
def celK : Cl → Nat → (List PyData → Prop) → Prop
  | [], _, _ => False
  | x :: _, 0, k => k x
  | _ :: l, i + 1, k => celK l i k
def scelK : Cl → Nat → List PyData → (Cl → Prop) → Prop
  | [], _, _, _ => False
  | _ :: l, 0, x, k => k (x :: l)
  | y :: l, i + 1, x, k => scelK l i x fun l2 => k (y :: l2)
theorem getK_ok : ∀ {l : Sl} {i : Nat} {k : Option R → Prop}, getK l i k → ∃ x, GetS l i x ∧ k x
  | x :: l, 0, k, h => ⟨x, ge_z, h⟩
  | x :: l, i + 1, k, h => let ⟨y, a, b⟩ := getK_ok (l := l) h; ⟨y, ge_s a, b⟩
theorem setK_ok : ∀ {l : Sl} {i : Nat} {x : Option R} {k : Sl → Prop}, setK l i x k → ∃ l2, SetR l i x l2 ∧ k l2
  | _ :: l, 0, x, k, h => ⟨_, set_z, h⟩
  | y :: l, i + 1, x, k, h => let ⟨l2, a, b⟩ := setK_ok (l := l) h; ⟨_, set_s a, b⟩
theorem senK_ok : ∀ {l : Sl} {i : Nat} {x : Option R} {k : Sl → Prop}, senK l i x k → k (l.set i x)
  | [], _, _, _, h => h
  | _ :: l, 0, x, k, h => h
  | y :: l, i + 1, x, k, h => senK_ok (l := l) h
theorem gedK_ok : ∀ {l : Sl} {i : Nat} {k : Option R → Prop}, gedK l i k → k (l.getD i none)
  | [], i, _, h => by rw [show ([] : Sl).getD i none = none by simp]; exact h
  | _ :: l, 0, k, h => h
  | y :: l, i + 1, k, h => by simpa using gedK_ok (l := l) h
theorem wipK_ok {l : Sl} : ∀ {vs : List Nat} {k : Sl → Prop}, wipK l vs k → k (wipe l vs)
  | [], _, h => h
  | v :: vs, k, h => senK_ok (wipK_ok (vs := vs) h)
theorem bckK_ok {l old : Sl} : ∀ {vs : List Nat} {k : Sl → Prop}, bckK l old vs k → k (back l old vs)
  | [], _, h => h
  | v :: vs, k, h => senK_ok (gedK_ok (bckK_ok (vs := vs) h))
theorem bndK_ok : ∀ {t : Tg} {x : PyData} {l : Sl} {k : Sl → Prop}, bndK t x l k → ∃ l2, Bnd t x l l2 ∧ k l2
  | .v i, x, l, k, h => let ⟨l2, a, b⟩ := setK_ok h; ⟨l2, bt_v a, b⟩
  | .nil, x, l, k, h => by
    unfold bndK at h
    split at h
    · exact ⟨l, bt_n, h⟩
    · cases h
  | .cons t r, x, l, k, h => by
    unfold bndK at h
    split at h
    · obtain ⟨l1, a, b⟩ := bndK_ok h
      obtain ⟨l2, a2, b2⟩ := bndK_ok b
      exact ⟨l2, bt_c a a2, b2⟩
    · cases h
theorem sallK_ok : ∀ {is : List Nat} {ws : List W} {l : Sl} {k : Sl → Prop}, sallK l is ws k → ∃ l2, SetA l is ws l2 ∧ k l2
  | [], [], l, k, h => ⟨l, sa_n, h⟩
  | i :: is, w :: ws, l, k, h => by
    unfold sallK at h
    obtain ⟨l1, a, b⟩ := setK_ok h
    obtain ⟨l2, a2, b2⟩ := sallK_ok b
    exact ⟨l2, sa_c a a2, b2⟩
  | [], _ :: _, _, _, h => by unfold sallK at h; cases h
  | _ :: _, [], _, _, h => by unfold sallK at h; cases h
theorem iniN_ok : ∀ {n : Nat} {k : Sl → Prop}, iniN n k → ∃ l, Ini [] n l ∧ k l
  | 0, k, h => ⟨_, in_z, h⟩
  | n + 1, k, h => let ⟨l, a, b⟩ := iniN_ok (n := n) h; ⟨_, in_s a, b⟩
theorem iniK_ok : ∀ {ws : List W} {n : Nat} {k : Sl → Prop}, iniK ws n k → ∃ l, Ini ws n l ∧ k l
  | [], n, k, h => iniN_ok h
  | w :: ws, n, k, h => let ⟨l, a, b⟩ := iniK_ok (ws := ws) h; ⟨_, in_c a, b⟩
theorem asDK_ok : ∀ {ws : List W} {k : List PyData → Prop}, asDK ws k → ∃ ds, asD ws = some ds ∧ k ds
  | [], k, h => ⟨[], rfl, h⟩
  | .d x :: ws, k, h => let ⟨ds, a, b⟩ := asDK_ok (ws := ws) h; ⟨_, ad_c a, b⟩
  | .cell _ :: _, _, h => by cases h
  | .fn _ :: _, _, h => by cases h
  | .known _ :: _, _, h => by cases h
theorem noOK_ok {l : Sl} : ∀ {vs : List Nat} {k : Prop}, noOK l vs k → noOwn l vs = true ∧ k
  | [], k, h => ⟨rfl, h⟩
  | v :: vs, k, h => by
    unfold noOK at h
    have h2 := gedK_ok h
    rw [List.getD_eq_getElem?_getD] at h2
    unfold noOwn
    simp only [List.all_cons, Bool.and_eq_true]
    cases e : l[v]? with
    | none =>
      rw [e] at h2
      obtain ⟨a, b⟩ := noOK_ok (vs := vs) (show noOK l vs k from h2)
      exact ⟨⟨rfl, a⟩, b⟩
    | some o =>
      rw [e] at h2
      cases o with
      | none =>
        obtain ⟨a, b⟩ := noOK_ok (vs := vs) (show noOK l vs k from h2)
        exact ⟨⟨rfl, a⟩, b⟩
      | some r => cases r with
        | own xs => cases h2
        | w x =>
          obtain ⟨a, b⟩ := noOK_ok (vs := vs) (show noOK l vs k from h2)
          exact ⟨⟨rfl, a⟩, b⟩
        | bor x =>
          obtain ⟨a, b⟩ := noOK_ok (vs := vs) (show noOK l vs k from h2)
          exact ⟨⟨rfl, a⟩, b⟩
theorem celK_ok : ∀ {l : Cl} {i : Nat} {k : List PyData → Prop}, celK l i k → ∃ x, l[i]? = some x ∧ k x
  | x :: l, 0, k, h => ⟨x, rfl, h⟩
  | x :: l, i + 1, k, h => let ⟨y, a, b⟩ := celK_ok (l := l) h; ⟨y, by simpa using a, b⟩
theorem scelK_ok : ∀ {l : Cl} {i : Nat} {x : List PyData} {k : Cl → Prop}, scelK l i x k → k (l.set i x)
  | _ :: l, 0, x, k, h => h
  | y :: l, i + 1, x, k, h => scelK_ok (l := l) h
/-! ### values -/
def datK (x : R) (c : Cl) (k : PyData → Prop) : Prop := match x with
  | .w (.d p) => k p
  | .w (.cell n) => celK c n fun xs => k (.list xs)
  | .own xs => k (.list xs)
  | .bor xs => k (.list xs)
  | _ => False
theorem datK_ok {x : R} {c : Cl} {k : PyData → Prop} (h : datK x c k) : ∃ p, x.dat c = some p ∧ k p := by
  cases x with
  | w w => cases w with
    | d p => exact ⟨p, rfl, h⟩
    | cell n =>
      obtain ⟨xs, a, b⟩ := celK_ok h
      exact ⟨.list xs, by show (c[n]?).map _ = _; rw [a]; rfl, b⟩
    | fn => cases h
    | known => cases h
  | own xs => exact ⟨_, rfl, h⟩
  | bor xs => exact ⟨_, rfl, h⟩
def fzK (x : R) (k : W → Prop) : Prop := match x with
  | .w w => k w
  | .own xs => k (.d (.list xs))
  | .bor _ => False
theorem fzK_ok {x : R} {k : W → Prop} (h : fzK x k) : ∃ w, x.fz = some w ∧ k w := by
  cases x with
  | w w => exact ⟨w, rfl, h⟩
  | own xs => exact ⟨_, rfl, h⟩
  | bor xs => cases h
def bolK (x : R) (c : Cl) (k : Bool → Prop) : Prop := datK x c fun p => match p with
  | .bool b => k b
  | _ => False
theorem bolK_ok {x : R} {c : Cl} {k : Bool → Prop} (h : bolK x c k) : ∃ b, asB c x = some b ∧ k b := by
  obtain ⟨p, a, b⟩ := datK_ok h
  unfold asB
  rw [a]
  cases p <;> first | exact ⟨_, rfl, b⟩ | cases b
def intK (x : R) (c : Cl) (k : Int → Prop) : Prop := datK x c fun p => match p with
  | .int b => k b
  | _ => False
theorem intK_ok {x : R} {c : Cl} {k : Int → Prop} (h : intK x c k) : ∃ b, asI c x = some b ∧ k b := by
  obtain ⟨p, a, b⟩ := datK_ok h
  unfold asI
  rw [a]
  cases p <;> first | exact ⟨_, rfl, b⟩ | cases b
/-- two texts compared -/
inductive StrE (a b : Str) (k : Bool → Prop) : Prop
  | mk (h : k (decide (a = b)))
theorem str_t {a b : Str} {k : Bool → Prop} (e : decide (a = b) = true) (h : k true) : StrE a b k := ⟨by rw [e]; exact h⟩
theorem str_f {a b : Str} {k : Bool → Prop} (e : decide (a = b) = false) (h : k false) : StrE a b k := ⟨by rw [e]; exact h⟩
/-- what is told by the plain evaluator -/
inductive TolR (x : Option R) (k : R → Prop) : Prop
  | mk (r : R) (e : x = some r) (h : k r)
inductive TolB (x : Option Bool) (k : Bool → Prop) : Prop
  | mk (r : Bool) (e : x = some r) (h : k r)
def binK : Bo → PyData → PyData → (R → Prop) → Prop
  | .add, .int a, .int b, k => k (.i (a + b))
  | .sub, .int a, .int b, k => k (.i (a - b))
  | .mul, .int a, .int b, k => Sd (mulOk a b = true) (k (.i (a * b)))
  | .fdiv, .int a, .int b, k => Sd (divOk b = true) (k (.i (a.fdiv b)))
  | .mod, .int a, .int b, k => Sd (b ≠ 0) (k (.i (a.fmod b)))
  | .add, .tuple a, .tuple b, k => Sd (decide (a.length + b.length ≤ 16777216) = true) (k (.t (a ++ b)))
  | .add, .list a, .list b, k => Sd (decide (a.length + b.length ≤ 16777216) = true) (k (.own (a ++ b)))
  | .add, .str a, .str b, k => Sd (decide (a.length + b.length ≤ 16777216) = true) (k (.s (a ++ b)))
  | o, p, q, k => TolR (bin2 o p q) k
theorem binK_ok {o : Bo} {p q : PyData} {k : R → Prop} (h : binK o p q k) : ∃ r, bin2 o p q = some r ∧ k r := by
  unfold binK at h
  split at h
  · exact ⟨_, rfl, h⟩
  · exact ⟨_, rfl, h⟩
  · exact ⟨_, if_pos h.1, h.2⟩
  · exact ⟨_, if_pos h.1, h.2⟩
  · exact ⟨_, if_pos h.1, h.2⟩
  · exact ⟨_, if_pos (of_decide_eq_true h.1), h.2⟩
  · exact ⟨_, if_pos (of_decide_eq_true h.1), h.2⟩
  · exact ⟨_, if_pos (of_decide_eq_true h.1), h.2⟩
  · obtain ⟨r, e, q⟩ := h
    exact ⟨r, e, q⟩
def cmpK : Co → PyData → PyData → (Bool → Prop) → Prop
  | .eq, .int a, .int b, k => k (decide (a = b))
  | .ne, .int a, .int b, k => k (!decide (a = b))
  | .eq, .str a, .str b, k => StrE a b k
  | .ne, .str a, .str b, k => StrE a b fun x => k (!x)
  | .lt, .int a, .int b, k => k (decide (a < b))
  | .le, .int a, .int b, k => k (decide (a ≤ b))
  | .gt, .int a, .int b, k => k (decide (b < a))
  | .ge, .int a, .int b, k => k (decide (b ≤ a))
  | .isn, p, .none, k => k (nonB p)
  | .notn, p, .none, k => k (!nonB p)
  | o, p, q, k => TolB (cmp2 o p q) k
theorem eqv_int {a b : Int} : PyData.eqv (.int a) (.int b) = decide (a = b) := by congr 1
theorem cmpK_ok {o : Co} {p q : PyData} {k : Bool → Prop} (h : cmpK o p q k) : ∃ r, cmp2 o p q = some r ∧ k r := by
  unfold cmpK at h
  split at h
  · rename_i a b
    refine ⟨decide (a = b), ?_, h⟩
    show (if (okEq (.int a) && okEq (.int b)) = true then some (PyData.eqv (.int a) (.int b)) else none) = _
    rw [if_pos (show (okEq (.int a) && okEq (.int b)) = true from rfl), eqv_int]
  · rename_i a b
    refine ⟨!decide (a = b), ?_, h⟩
    show (if (okEq (.int a) && okEq (.int b)) = true then some (!PyData.eqv (.int a) (.int b)) else none) = _
    rw [if_pos (show (okEq (.int a) && okEq (.int b)) = true from rfl), eqv_int]
  · exact ⟨_, rfl, h.1⟩
  · exact ⟨_, rfl, h.1⟩
  · exact ⟨_, rfl, h⟩
  · exact ⟨_, rfl, h⟩
  · exact ⟨_, rfl, h⟩
  · exact ⟨_, rfl, h⟩
  · exact ⟨_, rfl, h⟩
  · exact ⟨_, rfl, h⟩
  · obtain ⟨r, e, q⟩ := h
    exact ⟨r, e, q⟩
def un1K : U1 → PyData → (R → Prop) → Prop
  | .neg, .int a, k => k (.i (-a))
  | .len, .list xs, k => k (.i xs.length)
  | .len, .tuple xs, k => k (.i xs.length)
  | .abs, .int a, k => k (.i (if a < 0 then -a else a))
  | .list, .list xs, k => k (.own xs)
  | .list, .tuple xs, k => k (.own xs)
  | .tuple, .list xs, k => k (.t xs)
  | .tuple, .tuple xs, k => k (.t xs)
  | .int, .int a, k => k (.i a)
  | .int, .bool a, k => k (.i (cond a 1 0))
  | .rev, .list xs, k => k (.own xs.reverse)
  | .repr, p, k => Sd (showOk p = true) (k (.s p.shown))
  | f, p, k => TolR (un1 f p) k
theorem un1K_ok {f : U1} {p : PyData} {k : R → Prop} (h : un1K f p k) : ∃ r, un1 f p = some r ∧ k r := by
  unfold un1K at h
  split at h
  · exact ⟨_, rfl, h⟩
  · exact ⟨_, rfl, h⟩
  · exact ⟨_, rfl, h⟩
  · exact ⟨_, rfl, h⟩
  · exact ⟨_, rfl, h⟩
  · exact ⟨_, rfl, h⟩
  · exact ⟨_, rfl, h⟩
  · exact ⟨_, rfl, h⟩
  · exact ⟨_, rfl, h⟩
  · rename_i a
    refine ⟨_, rfl, ?_⟩
    cases a <;> exact h
  · exact ⟨_, rfl, h⟩
  · exact ⟨_, if_pos h.1, h.2⟩
  · obtain ⟨r, e, q⟩ := h
    exact ⟨r, e, q⟩
def un2K : U2 → PyData → PyData → (R → Prop) → Prop
  | .max, .int a, .int b, k => k (.i (if b > a then b else a))
  | .min, .int a, .int b, k => k (.i (if b < a then b else a))
  | .gcd, .int a, .int b, k => k (.i (Nat.gcd a.natAbs b.natAbs : Nat))
  | f, p, q, k => TolR (un2 f p q) k
theorem un2K_ok {f : U2} {p q : PyData} {k : R → Prop} (h : un2K f p q k) : ∃ r, un2 f p q = some r ∧ k r := by
  unfold un2K at h
  split at h
  · exact ⟨_, rfl, h⟩
  · exact ⟨_, rfl, h⟩
  · exact ⟨_, rfl, h⟩
  · obtain ⟨r, e, q⟩ := h
    exact ⟨r, e, q⟩
def getP : List PyData → Nat → (PyData → Prop) → Prop
  | [], _, _ => False
  | x :: _, 0, k => k x
  | _ :: l, i + 1, k => getP l i k
theorem getP_ok : ∀ {l : List PyData} {i : Nat} {k : PyData → Prop}, getP l i k → ∃ x, l[i]? = some x ∧ k x
  | x :: l, 0, k, h => ⟨x, rfl, h⟩
  | x :: l, i + 1, k, h => let ⟨y, a, b⟩ := getP_ok (l := l) h; ⟨y, by simpa using a, b⟩
/-- an index that is written, or stays open -/
def ix2K : PyData → PyData → (R → Prop) → Prop
  | .tuple xs, .int (.ofNat n), k => getP xs n fun x => k (.w (.d x))
  | .list xs, .int (.ofNat n), k => getP xs n fun x => k (.w (.d x))
  | p, q, k => TolR (ix2 p q) k
theorem atD_nat {xs : List PyData} {n : Nat} {x : PyData} (h : xs[n]? = some x) : atD xs (.ofNat n) = some x := by
  have hl := (List.getElem?_eq_some_iff.mp h).1
  have hz : Int.ofNat n < (xs.length : Int) := by
    show (n : Int) < _
    omega
  unfold atD L2.atI L2.ixN
  rw [if_pos (show 0 ≤ Int.ofNat n from Int.natCast_nonneg n), if_pos hz]
  exact h
theorem ix2K_ok {p q : PyData} {k : R → Prop} (h : ix2K p q k) : ∃ r, ix2 p q = some r ∧ k r := by
  unfold ix2K at h
  split at h
  · obtain ⟨x, a, b⟩ := getP_ok h
    refine ⟨_, ?_, b⟩
    show (atD _ _).map _ = _
    rw [atD_nat a]
    rfl
  · obtain ⟨x, a, b⟩ := getP_ok h
    refine ⟨_, ?_, b⟩
    show (atD _ _).map _ = _
    rw [atD_nat a]
    rfl
  · obtain ⟨r, e, q⟩ := h
    exact ⟨r, e, q⟩
/-! ### what is not run by itself -/
inductive CallI (cal : Nat → List W → List Cell → Option (R × List Cell)) (f : Nat) (ws : List W) (c : Cl) (Q : R → Cl → Prop) : Prop
  | mk (h : wcq (cal f ws c) Q)
inductive LoopI (f : PyData → S → Option (Fl × S)) (xs : List PyData) (l : Sl) (c : Cl) (QF : Fl → Sl → Cl → Prop) : Prop
  | mk (h : wq (loopL f xs ⟨l, c⟩) QF)
inductive LcI (f : PyData → S → Option (Option PyData × S)) (xs : List PyData) (l : Sl) (c : Cl) (Q : List PyData → Sl → Cl → Prop) : Prop
  | mk (h : wq (lcL f xs ⟨l, c⟩) Q)
inductive LmI (f : S → Option (List PyData × S)) (g : PyData → S → Option (Bool × S)) (xs : List PyData) (l : Sl) (c : Cl) (Q : List PyData → Sl → Cl → Prop) : Prop
  | mk (h : wq (lcM f g xs ⟨l, c⟩) Q)
inductive FwI (f : S → Option (List PyData × S)) (l : Sl) (c : Cl) (Q : List PyData → Sl → Cl → Prop) : Prop
  | mk (h : wq (f ⟨l, c⟩) Q)
/-! the clauses of a comprehension -/
def lastF (cal : Nat → List W → List Cell → Option (R × List Cell)) (G : List PyData) (e : Ex) (s9 : S) : Option (List PyData × S) := bd (ev cal G e s9) fun z sa => on (match z.fz with | some (.d d) => some [d] | _ => none) sa
def testF (cal : Nat → List W → List Cell → Option (R × List Cell)) (G : List PyData) (own : List Nat) (tg : Tg) (t : Ex) (x : PyData) (s2 : S) : Option (Bool × S) := bd (on (bindT tg x (wipe s2.sl own)) s2) fun l s3 => bd (ev cal G t ⟨l, s3.st⟩) fun k s4 => on (asB s4.st k) s4
def midF (cal : Nat → List W → List Cell → Option (R × List Cell)) (G : List PyData) (own : List Nat) (it : It) (f : S → Option (List PyData × S)) (g : PyData → S → Option (Bool × S)) (s5 : S) : Option (List PyData × S) :=
  bd (evi cal G it s5) fun ys s6 => bd (on (if noOwn s6.sl own = true then fits ys else none) s6) fun ys s6 => lcM f g ys s6
theorem wq_back {l1 : Sl} {own : List Nat} {Q : R → Sl → Cl → Prop} {x : Option (List PyData × S)} (h : wq x fun r l7 c7 => decide (r.length ≤ 16777215) = true ∧ Q (.own r) (back l7 l1 own) c7) : wq (bd x fun r sb => bd (on (fits r) sb) fun r sb => some (R.own r, ⟨back sb.sl l1 own, sb.st⟩)) Q := by
  refine wp_bd2 (wp_mono h fun r s7 ⟨h1, k⟩ => ?_)
  exact wp_on (a := r) (if_pos (of_decide_eq_true h1)) ⟨_, _, rfl, k⟩
theorem v_lc2 {cal : Nat → List W → List Cell → Option (R × List Cell)} {G : List PyData} {l : Sl} {c : Cl} {Q : R → Sl → Cl → Prop} {own own1 : List Nat} {tg tg1 : Tg} {it it1 : It} {t t1 e : Ex}
    (h : wq (evi cal G it ⟨l, c⟩) fun xs l1 c1 => (noOwn l1 own && decide (xs.length ≤ 16777215)) = true ∧ wq (lcM (midF cal G own1 it1 (lastF cal G e) (testF cal G own1 tg1 t1)) (testF cal G own tg t) xs ⟨l1, c1⟩) fun r l7 c7 => decide (r.length ≤ 16777215) = true ∧ Q (.own r) (back l7 l1 own) c7) : wq (ev cal G (.lc2 own own1 tg it t tg1 it1 t1 e) ⟨l, c⟩) Q := by
  show wp _ _
  simp only [ev]
  refine wp_bd2 (wp_mono h fun xs s1 ⟨h1, h2⟩ => ?_)
  simp only [Bool.and_eq_true, decide_eq_true_eq] at h1
  refine wp_on (a := xs) ?_ (wq_back h2)
  rw [if_pos h1.1]
  exact if_pos h1.2
theorem v_lc3 {cal : Nat → List W → List Cell → Option (R × List Cell)} {G : List PyData} {l : Sl} {c : Cl} {Q : R → Sl → Cl → Prop} {own own1 own2 : List Nat} {tg tg1 tg2 : Tg} {it it1 it2 : It} {t t1 t2 e : Ex}
    (h : wq (evi cal G it ⟨l, c⟩) fun xs l1 c1 => (noOwn l1 own && decide (xs.length ≤ 16777215)) = true ∧ wq (lcM (midF cal G own1 it1 (midF cal G own2 it2 (lastF cal G e) (testF cal G own2 tg2 t2)) (testF cal G own1 tg1 t1)) (testF cal G own tg t) xs ⟨l1, c1⟩) fun r l7 c7 => decide (r.length ≤ 16777215) = true ∧ Q (.own r) (back l7 l1 own) c7) : wq (ev cal G (.lc3 own own1 own2 tg it t tg1 it1 t1 tg2 it2 t2 e) ⟨l, c⟩) Q := by
  show wp _ _
  simp only [ev]
  refine wp_bd2 (wp_mono h fun xs s1 ⟨h1, h2⟩ => ?_)
  simp only [Bool.and_eq_true, decide_eq_true_eq] at h1
  refine wp_on (a := xs) ?_ (wq_back h2)
  rw [if_pos h1.1]
  exact if_pos h1.2
def dselD (ks : List Str) (ds : List PyData) : PyData → Option R
  | .str z => (keyAt ks ds z).map fun d => .w (.d d)
  | _ => none
theorem v_dsel {cal : Nat → List W → List Cell → Option (R × List Cell)} {G : List PyData} {l : Sl} {c : Cl} {Q : R → Sl → Cl → Prop} {ks : List Str} {es : Exs} {b : Ex}
    (h : wq (evs cal G es ⟨l, c⟩) fun ws l1 c1 => wq (ev cal G b ⟨l1, c1⟩) fun y l2 c2 => ∃ ds, asD ws = some ds ∧ oq1 (dselD ks ds) y c2 fun r => Q r l2 c2) : wq (ev cal G (.dsel ks es b) ⟨l, c⟩) Q := by
  show wp _ _
  simp only [ev]
  refine wp_bd2 (wp_mono h fun ws s1 h1 => wp_bd2 (wp_mono h1 fun y s2 ⟨ds, e, r, e2, k⟩ => wp_on1 ?_ k))
  rw [e]
  rw [← e2]
  show (y.dat s2.st).bind _ = _
  first
  | (congr 1; done)
  | (congr 1; funext p; cases p <;> rfl)
inductive WhlI (t : S → Option (Bool × S)) (f : S → Option (Fl × S)) (n : Nat) (l : Sl) (c : Cl) (QF : Fl → Sl → Cl → Prop) : Prop
  | mk (h : wq (loopW t f n ⟨l, c⟩) QF)
inductive FnI (x : W) (k : Nat → Prop) : Prop
  | mk (f : Nat) (e : x = .fn f) (h : k f)
/-- a function, from its name -/
def fnK (x : Option R) (k : Nat → Prop) : Prop := match x with
  | some (.w (.fn f)) => k f
  | some (.w x) => FnI x k
  | _ => False
theorem fnK_ok {x : Option R} {k : Nat → Prop} (h : fnK x k) : ∃ f, x = some (.w (.fn f)) ∧ k f := by
  unfold fnK at h
  split at h
  · exact ⟨_, rfl, h⟩
  · obtain ⟨f, e, q⟩ := h
    rw [e]
    exact ⟨f, rfl, q⟩
  · cases h
section
variable (cal : Nat → List W → List Cell → Option (R × List Cell)) (G : List PyData)
set_option linter.unusedVariables false in
mutual
def wpE : Ex → Sl → Cl → (R → Sl → Cl → Prop) → Prop
  | .int i, l, c, Q => Q (.i i) l c
  | .bl b, l, c, Q => Q (.b b) l c
  | .non, l, c, Q => Q .n l c
  | .str s, l, c, Q => Q (.s s) l c
  | .var i, l, c, Q => getK l i fun o => (match o with
    | some (.own xs) => setK l i (some (.w (.d (.list xs)))) fun l2 => Q (.w (.d (.list xs))) l2 c
    | some (.w x) => Q (.w x) l c
    | _ => False)
  | .vb i, l, c, Q => getK l i fun o => (match o with
    | some (.own xs) => Q (.bor xs) l c
    | some (.w x) => Q (.w x) l c
    | _ => False)
  | .vm i, l, c, Q => getK l i fun o => (match o with
    | some (.own xs) => setK l i none fun l2 => Q (.own xs) l2 c
    | some (.w x) => Q (.w x) l c
    | _ => False)
  | .glb g, l, c, Q => getP G g fun x => Q (.w (.d x)) l c
  | .fnv f, l, c, Q => Q (.w (.fn f)) l c
  | .scr a, l, c, Q => wpE a l c fun x l1 c1 => (match x with
    | .w (.known ns) => Q (.own (ns.map .int)) l1 c1
    | _ => False)
  | .tup es, l, c, Q => wpEs es l c fun ws l1 c1 => asDK ws fun ds => Q (.t ds) l1 c1
  | .lst es, l, c, Q => wpEs es l c fun ws l1 c1 => asDK ws fun ds => Q (.own ds) l1 c1
  | .bin o a b, l, c, Q => wpE a l c fun x l1 c1 => wpE b l1 c1 fun y l2 c2 => datK x c2 fun p => datK y c2 fun q => binK o p q fun r => Q r l2 c2
  | .cmp o a b, l, c, Q => wpE a l c fun x l1 c1 => wpE b l1 c1 fun y l2 c2 => datK x c2 fun p => datK y c2 fun q => cmpK o p q fun r => Q (.b r) l2 c2
  | .cmp2 o o2 a b e, l, c, Q => wpE a l c fun x l1 c1 => wpE b l1 c1 fun y l2 c2 => datK x c2 fun p => datK y c2 fun q => cmpK o p q fun r => cond r (wpE e l2 c2 fun z l3 c3 => datK y c3 fun p => datK z c3 fun q => cmpK o2 p q fun r => Q (.b r) l3 c3) (Q (.b false) l2 c2)
  | .and a b, l, c, Q => wpE a l c fun x l1 c1 => bolK x c1 fun r => cond r (wpE b l1 c1 Q) (Q (.b false) l1 c1)
  | .or a b, l, c, Q => wpE a l c fun x l1 c1 => bolK x c1 fun r => cond r (Q (.b true) l1 c1) (wpE b l1 c1 Q)
  | .not a, l, c, Q => wpE a l c fun x l1 c1 => bolK x c1 fun r => Q (.b (!r)) l1 c1
  | .ite e a b, l, c, Q => wpE e l c fun x l1 c1 => bolK x c1 fun r => cond r (wpE a l1 c1 Q) (wpE b l1 c1 Q)
  | .cal f es, l, c, Q => wpEs es l c fun ws l1 c1 => CallI cal f ws c1 fun r c2 => Q r l1 c2
  | .cav i es, l, c, Q => getK l i fun o => fnK o fun f => wpEs es l c fun ws l1 c1 => CallI cal f ws c1 fun r c2 => Q r l1 c2
  | .u1 f a, l, c, Q => wpE a l c fun x l1 c1 => datK x c1 fun p => un1K f p fun r => Q r l1 c1
  | .u2 f a b, l, c, Q => wpE a l c fun x l1 c1 => wpE b l1 c1 fun y l2 c2 => datK x c2 fun p => datK y c2 fun q => un2K f p q fun r => Q r l2 c2
  | .ix a b, l, c, Q => wpE a l c fun x l1 c1 => wpE b l1 c1 fun y l2 c2 => datK x c2 fun p => datK y c2 fun q => ix2K p q fun r => Q r l2 c2
  | .sl a lo hi, l, c, Q => wpE a l c fun x l1 c1 => wpP lo l1 c1 fun i l2 c2 => wpP hi l2 c2 fun j l3 c3 => datK x c3 fun p => TolR (sl3 i j p) fun r => Q r l3 c3
  | .nopart, _, _, _ => False
  | .lc own tg it t e, l, c, Q => wpI it l c fun xs l1 c1 => noOK l1 own (Sd (decide (xs.length ≤ 16777215) = true) (LcI (turnC cal G own tg t e) xs l1 c1 fun r l7 c7 => bckK l7 l1 own fun l8 => Q (.own r) l8 c7))
  | .lc2 own own1 tg it t tg1 it1 t1 e, l, c, Q => wpI it l c fun xs l1 c1 => noOK l1 own (Sd (decide (xs.length ≤ 16777215) = true) (LmI (midF cal G own1 it1 (lastF cal G e) (testF cal G own1 tg1 t1)) (testF cal G own tg t) xs l1 c1 fun r l7 c7 => Sd (decide (r.length ≤ 16777215) = true) (bckK l7 l1 own fun l8 => Q (.own r) l8 c7)))
  | .lc3 own own1 own2 tg it t tg1 it1 t1 tg2 it2 t2 e, l, c, Q => wpI it l c fun xs l1 c1 => noOK l1 own (Sd (decide (xs.length ≤ 16777215) = true) (LmI (midF cal G own1 it1 (midF cal G own2 it2 (lastF cal G e) (testF cal G own2 tg2 t2)) (testF cal G own1 tg1 t1)) (testF cal G own tg t) xs l1 c1 fun r l7 c7 => Sd (decide (r.length ≤ 16777215) = true) (bckK l7 l1 own fun l8 => Q (.own r) l8 c7)))
  | .dsel ks es b, l, c, Q => wpEs es l c fun ws l1 c1 => wpE b l1 c1 fun y l2 c2 => asDK ws fun ds => datK y c2 fun p => TolR (dselD ks ds p) fun r => Q r l2 c2
def wpP : Ex → Sl → Cl → (Option Int → Sl → Cl → Prop) → Prop
  | .nopart, l, c, Q => Q none l c
  | .int i, l, c, Q => Q (some i) l c
  | .var i, l, c, Q => getK l i fun o => (match o with
    | some (.w x) => intK (.w x) c fun j => Q (some j) l c
    | _ => False)
  | .vb i, l, c, Q => getK l i fun o => (match o with
    | some (.w x) => intK (.w x) c fun j => Q (some j) l c
    | _ => False)
  | .bin o a b, l, c, Q => wpE a l c fun x l1 c1 => wpE b l1 c1 fun y l2 c2 => datK x c2 fun p => datK y c2 fun q => binK o p q fun r => intK r c2 fun j => Q (some j) l2 c2
  | .u1 f a, l, c, Q => wpE a l c fun x l1 c1 => datK x c1 fun p => un1K f p fun r => intK r c1 fun j => Q (some j) l1 c1
  | .ix a b, l, c, Q => wpE a l c fun x l1 c1 => wpE b l1 c1 fun y l2 c2 => datK x c2 fun p => datK y c2 fun q => ix2K p q fun r => intK r c2 fun j => Q (some j) l2 c2
  | .cal f es, l, c, Q => wpEs es l c fun ws l1 c1 => CallI cal f ws c1 fun r c2 => intK r c2 fun j => Q (some j) l1 c2
  | _, _, _, _ => False
def wpEs : Exs → Sl → Cl → (List W → Sl → Cl → Prop) → Prop
  | .nil, l, c, Q => Q [] l c
  | .cons e es, l, c, Q => wpE e l c fun x l1 c1 => fzK x fun w => wpEs es l1 c1 fun ws l2 c2 => Q (w :: ws) l2 c2
def wpI : It → Sl → Cl → (List PyData → Sl → Cl → Prop) → Prop
  | .seq e, l, c, Q => wpE e l c fun x l1 c1 => fzK x fun w => (match w with
    | .d (.list xs) => Q xs l1 c1
    | .d (.tuple xs) => Q xs l1 c1
    | _ => False)
  | .rng1 a, l, c, Q => wpE a l c fun x l1 c1 => intK x c1 fun j => Sd (decide (j ≤ 4611686018427387903 ∧ -4611686018427387904 ≤ j) = true) (Q (rngD 0 j.toNat) l1 c1)
  | .rng2 a b, l, c, Q => wpE a l c fun x l1 c1 => intK x c1 fun i => wpE b l1 c1 fun y l2 c2 => intK y c2 fun j => Sd (decide (j ≤ 4611686018427387903 ∧ -4611686018427387904 ≤ j ∧ i ≤ 4611686018427387903 ∧ -4611686018427387904 ≤ i) = true) (Q (rngD i (j - i).toNat) l2 c2)
  | .rng3 a b d, l, c, Q => wpE a l c fun x l1 c1 => intK x c1 fun i => wpE b l1 c1 fun y l2 c2 => intK y c2 fun j => wpE d l2 c2 fun z l3 c3 => intK z c3 fun k => Sd (decide (1 ≤ k ∧ k ≤ 1000 ∧ 0 ≤ i ∧ i ≤ 1000000 ∧ 0 ≤ j ∧ j ≤ 1000000) = true) (Q (stepD i k ((j - i + k - 1) / k).toNat) l3 c3)
  | .enum a, l, c, Q => wpE a l c fun x l1 c1 => fzK x fun w => (match w with
    | .d (.list xs) => Q (enumD 0 xs) l1 c1
    | .d (.tuple xs) => Q (enumD 0 xs) l1 c1
    | _ => False)
  | .zip a b, l, c, Q => wpE a l c fun x l1 c1 => fzK x fun w => wpE b l1 c1 fun y l2 c2 => fzK y fun u => (match w, u with
    | .d (.list xs), .d (.list ys) => Q (zipD xs ys) l2 c2
    | .d (.tuple xs), .d (.tuple ys) => Q (zipD xs ys) l2 c2
    | _, _ => False)
end
variable (N : Nat)
mutual
def wpS : St → Sl → Cl → (Fl → Sl → Cl → Prop) → Prop
  | .asg tg e, l, c, QF => wpE cal G e l c fun r l1 c1 => (match tg with
    | .v i => (match r with
      | .bor _ => False
      | r => setK l1 i (some r) fun l2 => QF .nx l2 c1)
    | tg => fzK r fun w => (match w with
      | .d (.list xs) => bndK tg (.tuple xs) l1 fun l2 => QF .nx l2 c1
      | .d x => bndK tg x l1 fun l2 => QF .nx l2 c1
      | _ => False))
  | .asgC i e, l, c, QF => wpE cal G e l c fun r l1 c1 => (match r with
    | .own xs => setK l1 i (some (.w (.cell c1.length))) fun l2 => QF .nx l2 (c1 ++ [xs])
    | _ => False)
  | .par is es, l, c, QF => wpEs cal G es l c fun ws l1 c1 => sallK l1 is ws fun l2 => QF .nx l2 c1
  | .setv i k e, l, c, QF => wpE cal G e l c fun r l1 c1 => fzK r fun w => (match w with
    | .d x => getK l1 i fun o => (match o with
      | some _ => wpE cal G k l1 c1 fun kr l2 c2 => intK kr c2 fun j => getK l2 i fun o => (match o with
        | some (.own xs) => (match L2.ixN xs.length j with
          | some n => setK l2 i (some (.own (xs.set n x))) fun l3 => QF .nx l3 c2
          | none => False)
        | some (.w (.cell m)) => celK c2 m fun xs => (match L2.ixN xs.length j with
          | some n => scelK c2 m (xs.set n x) fun c3 => QF .nx l2 c3
          | none => False)
        | _ => False)
      | none => False)
    | _ => False)
  | .app i e, l, c, QF => getK l i fun o => (match o with
    | some (.own _) => wpE cal G e l c fun r l1 c1 => fzK r fun w => (match w with
      | .d x => getK l1 i fun o => (match o with
        | some (.own xs) => Sd (decide (xs.length < 16777216) = true) (setK l1 i (some (.own (xs ++ [x]))) fun l2 => QF .nx l2 c1)
        | _ => False)
      | _ => False)
    | _ => False)
  | .ins i k e, l, c, QF => getK l i fun o => (match o with
    | some (.own _) => wpE cal G k l c fun kr l1 c1 => intK kr c1 fun j => wpE cal G e l1 c1 fun r l2 c2 => fzK r fun w => (match w with
      | .d x => getK l2 i fun o => (match o with
        | some (.own xs) => Sd (xs.length < 16777216 ∧ 0 ≤ j ∧ j < 9223372036854775808) (setK l2 i (some (.own (xs.take j.toNat ++ [x] ++ xs.drop j.toNat))) fun l3 => QF .nx l3 c2)
        | _ => False)
      | _ => False)
    | _ => False)
  | .exp e, l, c, QF => wpE cal G e l c fun _ l1 c1 => QF .nx l1 c1
  | .ret e, l, c, QF => wpE cal G e l c fun r l1 c1 => (match r with
    | .bor _ => False
    | r => QF (.rt r) l1 c1)
  | .retN, l, c, QF => QF (.rt .n) l c
  | .ite e a b, l, c, QF => wpE cal G e l c fun x l1 c1 => bolK x c1 fun r => cond r (wpSs a l1 c1 QF) (wpSs b l1 c1 QF)
  | .for_ tg it b, l, c, QF => wpI cal G it l c fun xs l1 c1 => LoopI (turnF cal G N tg b) xs l1 c1 QF
  | .whl e b, l, c, QF => WhlI (testW cal G e) (fun s => runs cal G N b s) N l c QF
  | .brk, l, c, QF => QF .bk l c
  | .cnt, l, c, QF => QF .ct l c
  | .pass, l, c, QF => QF .nx l c
  | .never, _, _, _ => False
def wpSs : Sts → Sl → Cl → (Fl → Sl → Cl → Prop) → Prop
  | .nil, l, c, QF => QF .nx l c
  | .cons a r, l, c, QF => wpS a l c fun f l1 c1 => (match f with
    | .nx => wpSs r l1 c1 QF
    | f => QF f l1 c1)
end
end
end Xp

/-! E21: what must hold does. -/
namespace Xp
open PySem
section
variable {cal : Nat → List W → List Cell → Option (R × List Cell)} {G : List PyData}
theorem two_ok {f : PyData → PyData → Option R} {fK : PyData → PyData → (R → Prop) → Prop} (hf : ∀ {p q k}, fK p q k → ∃ r, f p q = some r ∧ k r) {x y : R} {c : Cl} {Q : R → Prop} (h : datK x c fun p => datK y c fun q => fK p q Q) : oq2 f x y c Q := by
  obtain ⟨p, a, h1⟩ := datK_ok h
  obtain ⟨q, b, h2⟩ := datK_ok h1
  obtain ⟨r, e, k⟩ := hf h2
  exact ⟨r, by rw [a, b]; exact e, k⟩
theorem cmp_ok {o : Co} {x y : R} {c : Cl} {Q : Bool → Prop} (h : datK x c fun p => datK y c fun q => cmpK o p q Q) : oqC o x y c Q := by
  obtain ⟨p, a, h1⟩ := datK_ok h
  obtain ⟨q, b, h2⟩ := datK_ok h1
  obtain ⟨r, e, k⟩ := cmpK_ok h2
  exact ⟨r, by rw [a, b]; exact e, k⟩
theorem one_ok {f : PyData → Option R} {fK : PyData → (R → Prop) → Prop} (hf : ∀ {p k}, fK p k → ∃ r, f p = some r ∧ k r) {x : R} {c : Cl} {Q : R → Prop} (h : datK x c fun p => fK p Q) : oq1 f x c Q := by
  obtain ⟨p, a, h1⟩ := datK_ok h
  obtain ⟨r, e, k⟩ := hf h1
  exact ⟨r, by rw [a]; exact e, k⟩
theorem tolR {x : Option R} {k : R → Prop} (h : TolR x k) : ∃ r, x = some r ∧ k r := let ⟨r, e, q⟩ := h; ⟨r, e, q⟩
theorem cnd_ok {α : Type} {b : Bool} {A B : Prop} {x y : Option (α × S)} {Q : α → Sl → Cl → Prop} (h1 : A → wq x Q) (h2 : B → wq y Q) (h : cond b A B) : wq (if b = true then x else y) Q := by
  cases b with
  | true => exact d_tr rfl (h1 h)
  | false => exact d_fl rfl (h2 h)
theorem lo_ok {a b : Ex} {Q : Option Int → Sl → Cl → Prop} {l : Sl} {c : Cl} (n : a ≠ .nopart) (h : wq (ev cal G a ⟨l, c⟩) fun x l1 c1 => intK x c1 fun j => Q (some j) l1 c1) : wq (evp cal G a ⟨l, c⟩) Q :=
  vp_so n (wq_mono h fun x l1 c1 h => intK_ok h)
mutual
theorem wpE_ok : ∀ (e : Ex) (l : Sl) (c : Cl) (Q : R → Sl → Cl → Prop), wpE cal G e l c Q → wq (ev cal G e ⟨l, c⟩) Q
  | .int i, l, c, Q, h => v_int (by unfold wpE at h; exact h)
  | .bl b, l, c, Q, h => v_bl (by unfold wpE at h; exact h)
  | .non, l, c, Q, h => v_non (by unfold wpE at h; exact h)
  | .str s, l, c, Q, h => v_str (by unfold wpE at h; exact h)
  | .var i, l, c, Q, h => by
    unfold wpE at h
    obtain ⟨o, a, h1⟩ := getK_ok h
    split at h1
    · obtain ⟨l2, b, h2⟩ := setK_ok h1
      exact v_var a (.own b) h2
    · exact v_var a .w h1
    · cases h1
  | .vb i, l, c, Q, h => by
    unfold wpE at h
    obtain ⟨o, a, h1⟩ := getK_ok h
    split at h1
    · exact v_vb a .own h1
    · exact v_vb a .w h1
    · cases h1
  | .vm i, l, c, Q, h => by
    unfold wpE at h
    obtain ⟨o, a, h1⟩ := getK_ok h
    split at h1
    · obtain ⟨l2, b, h2⟩ := setK_ok h1
      exact v_vm a (.own b) h2
    · exact v_vm a .w h1
    · cases h1
  | .glb g, l, c, Q, h => by
    unfold wpE at h
    obtain ⟨x, a, h1⟩ := getP_ok h
    exact v_glb a h1
  | .fnv f, l, c, Q, h => v_fnv (by unfold wpE at h; exact h)
  | .scr a, l, c, Q, h => by
    unfold wpE at h
    refine v_scr (wq_mono (wpE_ok a l c _ h) fun x l1 c1 h1 => ?_)
    split at h1
    · exact ⟨_, rfl, h1⟩
    · cases h1
  | .tup es, l, c, Q, h => by
    unfold wpE at h
    exact v_tup (wq_mono (wpEs_ok es l c _ h) fun ws l1 c1 h1 => asDK_ok h1)
  | .lst es, l, c, Q, h => by
    unfold wpE at h
    exact v_lst (wq_mono (wpEs_ok es l c _ h) fun ws l1 c1 h1 => asDK_ok h1)
  | .bin o a b, l, c, Q, h => by
    unfold wpE at h
    exact v_bin (wq_mono (wpE_ok a l c _ h) fun x l1 c1 h1 => wq_mono (wpE_ok b l1 c1 _ h1) fun y l2 c2 h2 => two_ok (fun h => binK_ok h) h2)
  | .cmp o a b, l, c, Q, h => by
    unfold wpE at h
    exact v_cmp (wq_mono (wpE_ok a l c _ h) fun x l1 c1 h1 => wq_mono (wpE_ok b l1 c1 _ h1) fun y l2 c2 h2 => cmp_ok h2)
  | .cmp2 o o2 a b e, l, c, Q, h => by
    unfold wpE at h
    refine v_cmp2 (wq_mono (wpE_ok a l c _ h) fun x l1 c1 h1 => wq_mono (wpE_ok b l1 c1 _ h1) fun y l2 c2 h2 => ?_)
    obtain ⟨r, e1, k⟩ := cmp_ok h2
    exact ⟨r, e1, cnd_ok (fun k => v_cmpR (wq_mono (wpE_ok e l2 c2 _ k) fun z l3 c3 h3 => cmp_ok h3)) (fun k => q_some k) k⟩
  | .and a b, l, c, Q, h => by
    unfold wpE at h
    refine v_and (wq_mono (wpE_ok a l c _ h) fun x l1 c1 h1 => ?_)
    obtain ⟨r, e1, k⟩ := bolK_ok h1
    exact ⟨r, e1, cnd_ok (wpE_ok b l1 c1 Q) q_some k⟩
  | .or a b, l, c, Q, h => by
    unfold wpE at h
    refine v_or (wq_mono (wpE_ok a l c _ h) fun x l1 c1 h1 => ?_)
    obtain ⟨r, e1, k⟩ := bolK_ok h1
    exact ⟨r, e1, cnd_ok q_some (wpE_ok b l1 c1 Q) k⟩
  | .not a, l, c, Q, h => by
    unfold wpE at h
    exact v_not (wq_mono (wpE_ok a l c _ h) fun x l1 c1 h1 => bolK_ok h1)
  | .ite e a b, l, c, Q, h => by
    unfold wpE at h
    refine v_ite (wq_mono (wpE_ok e l c _ h) fun x l1 c1 h1 => ?_)
    obtain ⟨r, e1, k⟩ := bolK_ok h1
    exact ⟨r, e1, cnd_ok (wpE_ok a l1 c1 Q) (wpE_ok b l1 c1 Q) k⟩
  | .cal f es, l, c, Q, h => by
    unfold wpE at h
    exact v_cal (wq_mono (wpEs_ok es l c _ h) fun ws l1 c1 h1 => h1.1)
  | .cav i es, l, c, Q, h => by
    unfold wpE at h
    obtain ⟨o, a, h1⟩ := getK_ok h
    obtain ⟨f, e, h2⟩ := fnK_ok h1
    subst e
    exact v_cav a (wq_mono (wpEs_ok es l c _ h2) fun ws l1 c1 h1 => h1.1)
  | .u1 f a, l, c, Q, h => by
    unfold wpE at h
    exact v_u1 (wq_mono (wpE_ok a l c _ h) fun x l1 c1 h1 => one_ok (fun h => un1K_ok h) h1)
  | .u2 f a b, l, c, Q, h => by
    unfold wpE at h
    exact v_u2 (wq_mono (wpE_ok a l c _ h) fun x l1 c1 h1 => wq_mono (wpE_ok b l1 c1 _ h1) fun y l2 c2 h2 => two_ok (fun h => un2K_ok h) h2)
  | .ix a b, l, c, Q, h => by
    unfold wpE at h
    exact v_ix (wq_mono (wpE_ok a l c _ h) fun x l1 c1 h1 => wq_mono (wpE_ok b l1 c1 _ h1) fun y l2 c2 h2 => two_ok (fun h => ix2K_ok h) h2)
  | .sl a lo hi, l, c, Q, h => by
    unfold wpE at h
    exact v_sl (wq_mono (wpE_ok a l c _ h) fun x l1 c1 h1 => wq_mono (wpP_ok lo l1 c1 _ h1) fun i l2 c2 h2 => wq_mono (wpP_ok hi l2 c2 _ h2) fun j l3 c3 h3 => one_ok (fun h => tolR h) h3)
  | .nopart, l, c, Q, h => by unfold wpE at h; cases h
  | .lc own tg it t e, l, c, Q, h => by
    unfold wpE at h
    refine v_lc (wq_mono (wpI_ok it l c _ h) fun xs l1 c1 h1 => ?_)
    obtain ⟨a, b, d⟩ := noOK_ok h1
    exact ⟨by rw [a, b]; rfl, wq_mono d.1 fun r l7 c7 k => ⟨_, rfl, bckK_ok k⟩⟩
  | .lc2 own own1 tg it t tg1 it1 t1 e, l, c, Q, h => by
    unfold wpE at h
    refine v_lc2 (wq_mono (wpI_ok it l c _ h) fun xs l1 c1 h1 => ?_)
    obtain ⟨a, b, d⟩ := noOK_ok h1
    exact ⟨by rw [a, b]; rfl, wq_mono d.1 fun r l7 c7 ⟨k1, k⟩ => ⟨k1, bckK_ok k⟩⟩
  | .lc3 own own1 own2 tg it t tg1 it1 t1 tg2 it2 t2 e, l, c, Q, h => by
    unfold wpE at h
    refine v_lc3 (wq_mono (wpI_ok it l c _ h) fun xs l1 c1 h1 => ?_)
    obtain ⟨a, b, d⟩ := noOK_ok h1
    exact ⟨by rw [a, b]; rfl, wq_mono d.1 fun r l7 c7 ⟨k1, k⟩ => ⟨k1, bckK_ok k⟩⟩
  | .dsel ks es b, l, c, Q, h => by
    unfold wpE at h
    refine v_dsel (wq_mono (wpEs_ok es l c _ h) fun ws l1 c1 h1 => wq_mono (wpE_ok b l1 c1 _ h1) fun y l2 c2 h2 => ?_)
    obtain ⟨ds, a, b⟩ := asDK_ok h2
    exact ⟨ds, a, one_ok (fun h => tolR h) b⟩
theorem wpP_ok : ∀ (e : Ex) (l : Sl) (c : Cl) (Q : Option Int → Sl → Cl → Prop), wpP cal G e l c Q → wq (evp cal G e ⟨l, c⟩) Q
  | .nopart, l, c, Q, h => vp_no (by unfold wpP at h; exact h)
  | .int i, l, c, Q, h => by
    unfold wpP at h
    exact lo_ok (b := .nopart) (by nofun) (v_int h)
  | .var i, l, c, Q, h => by
    unfold wpP at h
    obtain ⟨o, a, h1⟩ := getK_ok h
    split at h1
    · exact lo_ok (b := .nopart) (by nofun) (v_var a .w h1)
    · cases h1
  | .vb i, l, c, Q, h => by
    unfold wpP at h
    obtain ⟨o, a, h1⟩ := getK_ok h
    split at h1
    · exact lo_ok (b := .nopart) (by nofun) (v_vb a .w h1)
    · cases h1
  | .bin o a b, l, c, Q, h => by
    unfold wpP at h
    exact lo_ok (b := .nopart) (by nofun) (v_bin (wq_mono (wpE_ok a l c _ h) fun x l1 c1 h1 => wq_mono (wpE_ok b l1 c1 _ h1) fun y l2 c2 h2 => two_ok (fun h => binK_ok h) h2))
  | .u1 f a, l, c, Q, h => by
    unfold wpP at h
    exact lo_ok (b := .nopart) (by nofun) (v_u1 (wq_mono (wpE_ok a l c _ h) fun x l1 c1 h1 => one_ok (fun h => un1K_ok h) h1))
  | .ix a b, l, c, Q, h => by
    unfold wpP at h
    exact lo_ok (b := .nopart) (by nofun) (v_ix (wq_mono (wpE_ok a l c _ h) fun x l1 c1 h1 => wq_mono (wpE_ok b l1 c1 _ h1) fun y l2 c2 h2 => two_ok (fun h => ix2K_ok h) h2))
  | .cal f es, l, c, Q, h => by
    unfold wpP at h
    exact lo_ok (b := .nopart) (by nofun) (v_cal (wq_mono (wpEs_ok es l c _ h) fun ws l1 c1 h1 => h1.1))
  | .bl .., _, _, _, h => by unfold wpP at h; cases h
  | .non, _, _, _, h => by unfold wpP at h; cases h
  | .str .., _, _, _, h => by unfold wpP at h; cases h
  | .vm .., _, _, _, h => by unfold wpP at h; cases h
  | .glb .., _, _, _, h => by unfold wpP at h; cases h
  | .fnv .., _, _, _, h => by unfold wpP at h; cases h
  | .scr .., _, _, _, h => by unfold wpP at h; cases h
  | .tup .., _, _, _, h => by unfold wpP at h; cases h
  | .lst .., _, _, _, h => by unfold wpP at h; cases h
  | .cmp .., _, _, _, h => by unfold wpP at h; cases h
  | .cmp2 .., _, _, _, h => by unfold wpP at h; cases h
  | .and .., _, _, _, h => by unfold wpP at h; cases h
  | .or .., _, _, _, h => by unfold wpP at h; cases h
  | .not .., _, _, _, h => by unfold wpP at h; cases h
  | .ite .., _, _, _, h => by unfold wpP at h; cases h
  | .cav .., _, _, _, h => by unfold wpP at h; cases h
  | .u2 .., _, _, _, h => by unfold wpP at h; cases h
  | .sl .., _, _, _, h => by unfold wpP at h; cases h
  | .lc .., _, _, _, h => by unfold wpP at h; cases h
  | .lc2 .., _, _, _, h => by unfold wpP at h; cases h
  | .lc3 .., _, _, _, h => by unfold wpP at h; cases h
  | .dsel .., _, _, _, h => by unfold wpP at h; cases h
theorem wpEs_ok : ∀ (es : Exs) (l : Sl) (c : Cl) (Q : List W → Sl → Cl → Prop), wpEs cal G es l c Q → wq (evs cal G es ⟨l, c⟩) Q
  | .nil, l, c, Q, h => vs_n (by unfold wpEs at h; exact h)
  | .cons e es, l, c, Q, h => by
    unfold wpEs at h
    refine vs_c (wq_mono (wpE_ok e l c _ h) fun x l1 c1 h1 => ?_)
    obtain ⟨w, a, b⟩ := fzK_ok h1
    exact ⟨w, a, wpEs_ok es l1 c1 _ b⟩
theorem wpI_ok : ∀ (it : It) (l : Sl) (c : Cl) (Q : List PyData → Sl → Cl → Prop), wpI cal G it l c Q → wq (evi cal G it ⟨l, c⟩) Q
  | .seq e, l, c, Q, h => by
    unfold wpI at h
    refine vi_seq (wq_mono (wpE_ok e l c _ h) fun x l1 c1 h1 => ?_)
    obtain ⟨w, a, b⟩ := fzK_ok h1
    refine ⟨w, a, ?_⟩
    split at b
    · exact ⟨_, rfl, b⟩
    · exact ⟨_, rfl, b⟩
    · cases b
  | .rng1 a, l, c, Q, h => by
    unfold wpI at h
    refine vi_rng1 (wq_mono (wpE_ok a l c _ h) fun x l1 c1 h1 => ?_)
    obtain ⟨j, e, b, k⟩ := intK_ok h1
    exact ⟨j, e, of_decide_eq_true b, k⟩
  | .rng2 a b, l, c, Q, h => by
    unfold wpI at h
    refine vi_rng2 (wq_mono (wpE_ok a l c _ h) fun x l1 c1 h1 => ?_)
    obtain ⟨i, e, h2⟩ := intK_ok h1
    refine ⟨i, e, wq_mono (wpE_ok b l1 c1 _ h2) fun y l2 c2 h3 => ?_⟩
    obtain ⟨j, e3, b3, k3⟩ := intK_ok h3
    exact ⟨j, e3, of_decide_eq_true b3, k3⟩
  | .rng3 a b d, l, c, Q, h => by
    unfold wpI at h
    refine vi_rng3 (wq_mono (wpE_ok a l c _ h) fun x l1 c1 h1 => ?_)
    obtain ⟨i, e, h2⟩ := intK_ok h1
    refine ⟨i, e, wq_mono (wpE_ok b l1 c1 _ h2) fun y l2 c2 h3 => ?_⟩
    obtain ⟨j, e3, h4⟩ := intK_ok h3
    refine ⟨j, e3, wq_mono (wpE_ok d l2 c2 _ h4) fun z l3 c3 h5 => ?_⟩
    obtain ⟨k, e5, b5, k5⟩ := intK_ok h5
    exact ⟨k, e5, of_decide_eq_true b5, k5⟩
  | .enum a, l, c, Q, h => by
    unfold wpI at h
    refine vi_enum (wq_mono (wpE_ok a l c _ h) fun x l1 c1 h1 => ?_)
    obtain ⟨w, e, b⟩ := fzK_ok h1
    refine ⟨w, e, ?_⟩
    split at b
    · exact ⟨_, rfl, b⟩
    · exact ⟨_, rfl, b⟩
    · cases b
  | .zip a b, l, c, Q, h => by
    unfold wpI at h
    refine vi_zip (wq_mono (wpE_ok a l c _ h) fun x l1 c1 h1 => ?_)
    obtain ⟨w, e, h2⟩ := fzK_ok h1
    refine ⟨w, e, wq_mono (wpE_ok b l1 c1 _ h2) fun y l2 c2 h3 => ?_⟩
    obtain ⟨u, e3, h4⟩ := fzK_ok h3
    refine ⟨u, e3, ?_⟩
    split at h4
    · exact ⟨_, rfl, h4⟩
    · exact ⟨_, rfl, h4⟩
    · cases h4
end
theorem t_ins {i : Nat} {k e : Ex} {l : Sl} {c : Cl} {N : Nat} {QF : Fl → Sl → Cl → Prop} {ys : List PyData} (h0 : GetS l i (some (.own ys))) (h : wq (ev cal G k ⟨l, c⟩) fun kr l1 c1 => oqI kr c1 fun j => wq (ev cal G e ⟨l1, c1⟩) fun r l2 c2 => oqF r fun w => ∃ x xs l3, w = .d x ∧ GetS l2 i (some (.own xs)) ∧ (xs.length < 16777216 ∧ 0 ≤ j ∧ j < 9223372036854775808) ∧ SetR l2 i (some (.own (xs.take j.toNat ++ [x] ++ xs.drop j.toNat))) l3 ∧ QF .nx l3 c2) : wq (run cal G N (.ins i k e) ⟨l, c⟩) QF := by
  have h0' : l[i]? = some (some (.own ys)) := h0
  show wp _ _
  simp only [run]
  refine wp_on (a := ()) (by rw [h0']) (wp_bd2 (wp_mono h fun kr s1 ⟨j, e1, h1⟩ => wp_on e1 (wp_bd2 (wp_mono h1 fun r s2 ⟨w, e2, x, xs, l3, e3, hg, hl, hs, q⟩ => wp_on e2 ?_))))
  have hg' : s2.sl[i]? = some (some (.own xs)) := hg
  refine ⟨.nx, ⟨l3, s2.st⟩, ?_, q⟩
  rw [e3, hg']
  show (if xs.length < 16777216 ∧ 0 ≤ j ∧ j < 9223372036854775808 then _ else _) = _
  rw [if_pos hl, hs.2]
variable {N : Nat}
mutual
theorem wpS_ok : ∀ (a : St) (l : Sl) (c : Cl) (QF : Fl → Sl → Cl → Prop), wpS cal G N a l c QF → wq (run cal G N a ⟨l, c⟩) QF
  | .asg (.v i) e, l, c, QF, h => by
    unfold wpS at h
    refine t_asg (wq_mono (wpE_ok e l c _ h) fun r l1 c1 h1 => ?_)
    cases r with
    | w x =>
      obtain ⟨l2, a, b⟩ := setK_ok h1
      exact ⟨l2, nb_w, a, b⟩
    | own x =>
      obtain ⟨l2, a, b⟩ := setK_ok h1
      exact ⟨l2, nb_o, a, b⟩
    | bor x => cases h1
  | .asg .nil e, l, c, QF, h => by
    unfold wpS at h
    show wp _ _
    simp only [run]
    refine wp_bd2 (wp_mono (wpE_ok e l c _ h) fun r s1 h1 => ?_)
    obtain ⟨w, a, b⟩ := fzK_ok h1
    refine wp_on a ?_
    split at b
    · obtain ⟨l2, a2, b2⟩ := bndK_ok b
      exact wp_on a2 ⟨_, _, rfl, b2⟩
    · rename_i x hx
      obtain ⟨l2, a2, b2⟩ := bndK_ok b
      cases x with
      | list xs => exact absurd rfl (hx xs)
      | _ => exact wp_on a2 ⟨_, _, rfl, b2⟩
    · cases b
  | .asg (.cons t r) e, l, c, QF, h => by
    unfold wpS at h
    refine t_asgT (wq_mono (wpE_ok e l c _ h) fun r l1 c1 h1 => ?_)
    obtain ⟨w, a, b⟩ := fzK_ok h1
    refine ⟨w, a, ?_⟩
    split at b
    · obtain ⟨l2, a2, b2⟩ := bndK_ok b
      exact ⟨_, l2, rfl, a2, b2⟩
    · rename_i x hx
      obtain ⟨l2, a2, b2⟩ := bndK_ok b
      refine ⟨x, l2, rfl, ?_, b2⟩
      cases x with
      | list xs => exact absurd rfl (hx xs)
      | _ => exact a2
    · cases b
  | .asgC i e, l, c, QF, h => by
    unfold wpS at h
    refine t_asgC (wq_mono (wpE_ok e l c _ h) fun r l1 c1 h1 => ?_)
    split at h1
    · obtain ⟨l2, a2, b2⟩ := setK_ok h1
      exact ⟨_, l2, rfl, a2, b2⟩
    · cases h1
  | .par is es, l, c, QF, h => by
    unfold wpS at h
    exact t_par (wq_mono (wpEs_ok es l c _ h) fun ws l1 c1 h1 => sallK_ok h1)
  | .setv i k e, l, c, QF, h => by
    unfold wpS at h
    refine t_setv (wq_mono (wpE_ok e l c _ h) fun r l1 c1 h1 => ?_)
    obtain ⟨w, a, b⟩ := fzK_ok h1
    refine ⟨w, a, ?_⟩
    split at b
    · obtain ⟨o, a2, b2⟩ := getK_ok b
      split at b2
      · refine ⟨_, a2, wq_mono (wpE_ok k l1 c1 _ b2) fun kr l2 c2 h3 => ?_⟩
        obtain ⟨j, a3, b3⟩ := intK_ok h3
        obtain ⟨o2, a4, b4⟩ := getK_ok b3
        refine ⟨j, a3, o2, ?_⟩
        split at b4
        · split at b4
          · rename_i e5
            obtain ⟨l3, a6, b6⟩ := setK_ok b4
            exact ⟨l3, c2, a4, .own e5 a6, b6⟩
          · cases b4
        · obtain ⟨xs, a5, b5⟩ := celK_ok b4
          split at b5
          · rename_i e5
            exact ⟨l2, _, a4, .cell a5 e5, scelK_ok b5⟩
          · cases b5
        · cases b4
      · cases b2
    · cases b
  | .app i e, l, c, QF, h => by
    unfold wpS at h
    obtain ⟨o, a, b⟩ := getK_ok h
    split at b
    · refine t_app a (wq_mono (wpE_ok e l c _ b) fun r l1 c1 h1 => ?_)
      obtain ⟨w, a2, b2⟩ := fzK_ok h1
      refine ⟨w, a2, ?_⟩
      split at b2
      · obtain ⟨o2, a3, b3⟩ := getK_ok b2
        split at b3
        · obtain ⟨l2, a4, b4⟩ := setK_ok b3.2
          exact ⟨_, _, l2, rfl, a3, of_decide_eq_true b3.1, a4, b4⟩
        · cases b3
      · cases b2
    · cases b
  | .ins i k e, l, c, QF, h => by
    unfold wpS at h
    obtain ⟨o, a, b⟩ := getK_ok h
    split at b
    · refine t_ins a (wq_mono (wpE_ok k l c _ b) fun kr l1 c1 h1 => ?_)
      obtain ⟨j, a2, b2⟩ := intK_ok h1
      refine ⟨j, a2, wq_mono (wpE_ok e l1 c1 _ b2) fun r l2 c2 h3 => ?_⟩
      obtain ⟨w, a4, b4⟩ := fzK_ok h3
      refine ⟨w, a4, ?_⟩
      split at b4
      · obtain ⟨o2, a5, b5⟩ := getK_ok b4
        split at b5
        · obtain ⟨l3, a6, b6⟩ := setK_ok b5.2
          exact ⟨_, _, l3, rfl, a5, b5.1, a6, b6⟩
        · cases b5
      · cases b4
    · cases b
  | .exp e, l, c, QF, h => by
    unfold wpS at h
    exact t_exp (wpE_ok e l c _ h)
  | .ret e, l, c, QF, h => by
    unfold wpS at h
    refine t_ret (wq_mono (wpE_ok e l c _ h) fun r l1 c1 h1 => ?_)
    cases r with
    | w x => exact ⟨nb_w, h1⟩
    | own x => exact ⟨nb_o, h1⟩
    | bor x => cases h1
  | .retN, l, c, QF, h => t_retN (by unfold wpS at h; exact h)
  | .ite e a b, l, c, QF, h => by
    unfold wpS at h
    refine t_ite (wq_mono (wpE_ok e l c _ h) fun x l1 c1 h1 => ?_)
    obtain ⟨r, e1, k⟩ := bolK_ok h1
    exact ⟨r, e1, cnd_ok (wpSs_ok a l1 c1 QF) (wpSs_ok b l1 c1 QF) k⟩
  | .for_ tg it b, l, c, QF, h => by
    unfold wpS at h
    exact t_for (wq_mono (wpI_ok it l c _ h) fun xs l1 c1 h1 => h1.1)
  | .whl e b, l, c, QF, h => by
    unfold wpS at h
    exact t_whl h.1
  | .brk, l, c, QF, h => t_brk (by unfold wpS at h; exact h)
  | .cnt, l, c, QF, h => t_cnt (by unfold wpS at h; exact h)
  | .pass, l, c, QF, h => t_pass (by unfold wpS at h; exact h)
  | .never, l, c, QF, h => by unfold wpS at h; cases h
theorem wpSs_ok : ∀ (a : Sts) (l : Sl) (c : Cl) (QF : Fl → Sl → Cl → Prop), wpSs cal G N a l c QF → wq (runs cal G N a ⟨l, c⟩) QF
  | .nil, l, c, QF, h => ts_n (by unfold wpSs at h; exact h)
  | .cons a r, l, c, QF, h => by
    unfold wpSs at h
    refine ts_c (wq_mono (wpS_ok a l c _ h) fun f l1 c1 h1 => ?_)
    cases f with
    | nx => exact wpSs_ok r l1 c1 QF h1
    | bk => exact h1
    | ct => exact h1
    | rt x => exact h1
end
end
/-! ### into a call, a turn -/
section
variable {P : List Df} {G : List PyData} {wf k : Nat} {cal : Nat → List W → List Cell → Option (R × List Cell)} {N : Nat}
theorem into {f : Nat} {np nn : Nat} {body : Sts} {ws : List W} {c : Cl} {Q : R → Cl → Prop} (h : P[f]? = some ⟨np, nn, body⟩) (hl : ws.length = np) (hw : iniK ws (nn - np) fun l => wpSs (call P G wf k) G wf body l c (finQ Q)) : CallI (call P G wf (k + 1)) f ws c Q := by
  obtain ⟨l, a, b⟩ := iniK_ok hw
  exact ⟨wcq_call h hl a (wpSs_ok body l c _ b)⟩
theorem callI_mono {f : Nat} {ws : List W} {c : Cl} {Q Q' : R → Cl → Prop} (h : CallI cal f ws c Q) (k : ∀ r c, Q r c → Q' r c) : CallI cal f ws c Q' := ⟨wcq_mono h.1 k⟩
def turnK (tg : Tg) (b : Sts) (x : PyData) (cal : Nat → List W → List Cell → Option (R × List Cell)) (G : List PyData) (N : Nat) (l : Sl) (c : Cl) (QF : Fl → Sl → Cl → Prop) : Prop := bndK tg x l fun l1 => wpSs cal G N b l1 c QF
theorem turnK_ok {tg : Tg} {b : Sts} {x : PyData} {l : Sl} {c : Cl} {QF : Fl → Sl → Cl → Prop} (h : turnK tg b x cal G N l c QF) : wq (turnF cal G N tg b x ⟨l, c⟩) QF := by
  obtain ⟨l1, a, b1⟩ := bndK_ok h
  exact q_f a (wpSs_ok b l1 c _ b1)
/-- behind a turn -/
def nextK (f : PyData → S → Option (Fl × S)) (xs : List PyData) (QF : Fl → Sl → Cl → Prop) (o : Fl) (l : Sl) (c : Cl) : Prop := match o with
  | .nx => LoopI f xs l c QF
  | .ct => LoopI f xs l c QF
  | .bk => QF .nx l c
  | .rt r => QF (.rt r) l c
theorem lp_n {f : PyData → S → Option (Fl × S)} {l : Sl} {c : Cl} {QF : Fl → Sl → Cl → Prop} (h : QF .nx l c) : LoopI f [] l c QF := ⟨lq_n h⟩
theorem lp_c {tg : Tg} {b : Sts} {x : PyData} {xs : List PyData} {l : Sl} {c : Cl} {QF : Fl → Sl → Cl → Prop} (h : turnK tg b x cal G N l c (nextK (turnF cal G N tg b) xs QF)) : LoopI (turnF cal G N tg b) (x :: xs) l c QF :=
  ⟨lq_c (wq_mono (turnK_ok h) fun o l1 c1 q => by
    cases o with
    | nx => exact q.1
    | ct => exact q.1
    | bk => exact q
    | rt r => exact q)⟩
/-- a loop that is never left ahead of its end -/
theorem lp_inv (I : Sl → Cl → Prop) {tg : Tg} {b : Sts} {xs : List PyData} {l : Sl} {c : Cl} {QF : Fl → Sl → Cl → Prop} (h : I l c) (t : ∀ x ∈ xs, ∀ l c, I l c → turnK tg b x cal G N l c fun fl l c => (fl = .nx ∨ fl = .ct) ∧ I l c) (k : ∀ l c, I l c → QF .nx l c) : LoopI (turnF cal G N tg b) xs l c QF :=
  ⟨lq_loop I h (fun x hx l c hi => turnK_ok (t x hx l c hi)) k⟩
/-- .. that knows what is left -/
theorem lp_step (I : List PyData → Sl → Cl → Prop) {tg : Tg} {b : Sts} {xs : List PyData} {l : Sl} {c : Cl} {QF : Fl → Sl → Cl → Prop} (h : I xs l c) (t : ∀ x xs l c, I (x :: xs) l c → turnK tg b x cal G N l c fun fl l c => match fl with | .nx => I xs l c | .ct => I xs l c | .bk => QF .nx l c | .rt r => QF (.rt r) l c) (k : ∀ l c, I [] l c → QF .nx l c) : LoopI (turnF cal G N tg b) xs l c QF :=
  ⟨lq_step I (fun x xs l c hi => turnK_ok (t x xs l c hi)) k xs l c h⟩
def itemK (own : List Nat) (tg : Tg) (t e : Ex) (x : PyData) (cal : Nat → List W → List Cell → Option (R × List Cell)) (G : List PyData) (l : Sl) (c : Cl) (Q : Option PyData → Sl → Cl → Prop) : Prop := wipK l own fun l1 => bndK tg x l1 fun l2 => wpE cal G t l2 c fun k l4 c4 => bolK k c4 fun k => cond k (wpE cal G e l4 c4 fun y l5 c5 => fzK y fun w => (match w with
  | .d d => Q (some d) l5 c5
  | _ => False)) (Q none l4 c4)
theorem itemK_ok {own : List Nat} {tg : Tg} {t e : Ex} {x : PyData} {l : Sl} {c : Cl} {Q : Option PyData → Sl → Cl → Prop} (h : itemK own tg t e x cal G l c Q) : wq (turnC cal G own tg t e x ⟨l, c⟩) Q := by
  have h1 := wipK_ok h
  obtain ⟨l2, a, b⟩ := bndK_ok h1
  refine q_t (l1 := wipe l own) rfl a (wq_mono (wpE_ok t l2 c _ b) fun k l4 c4 h4 => ?_)
  obtain ⟨r, e1, k1⟩ := bolK_ok h4
  refine ⟨r, e1, cnd_ok (fun k => q_e (wq_mono (wpE_ok e l4 c4 _ k) fun y l5 c5 h5 => ?_)) (fun k => q_some k) k1⟩
  obtain ⟨w, a2, b2⟩ := fzK_ok h5
  refine ⟨w, a2, ?_⟩
  split at b2
  · exact ⟨_, rfl, b2⟩
  · cases b2
def thenK (f : PyData → S → Option (Option PyData × S)) (xs : List PyData) (Q : List PyData → Sl → Cl → Prop) (o : Option PyData) (l : Sl) (c : Cl) : Prop := match o with
  | some d => LcI f xs l c fun r => Q (d :: r)
  | none => LcI f xs l c Q
theorem lc_n {f : PyData → S → Option (Option PyData × S)} {l : Sl} {c : Cl} {Q : List PyData → Sl → Cl → Prop} (h : Q [] l c) : LcI f [] l c Q := ⟨ql_n h⟩
theorem lc_c {own : List Nat} {tg : Tg} {t e : Ex} {x : PyData} {xs : List PyData} {l : Sl} {c : Cl} {Q : List PyData → Sl → Cl → Prop} (h : itemK own tg t e x cal G l c (thenK (turnC cal G own tg t e) xs Q)) : LcI (turnC cal G own tg t e) (x :: xs) l c Q :=
  ⟨ql_u (wq_mono (itemK_ok h) fun o l1 c1 q => by
    cases o with
    | none => exact tl_n q.1
    | some d => exact Xp.tl_s q.1)⟩
theorem lc_inv (I : Sl → Cl → Prop) (P : PyData → Option PyData → Prop) {own : List Nat} {tg : Tg} {t e : Ex} {xs : List PyData} {l : Sl} {c : Cl} {Q : List PyData → Sl → Cl → Prop} (h : I l c) (b : ∀ x ∈ xs, ∀ l c, I l c → itemK own tg t e x cal G l c fun o l c => P x o ∧ I l c) (k : ∀ r l c, Rel P xs r → I l c → Q r l c) : LcI (turnC cal G own tg t e) xs l c Q :=
  ⟨ql_loop I P h (fun x hx l c hi => itemK_ok (b x hx l c hi)) k⟩
/-! comprehensions of clauses -/
def stepK (own : List Nat) (tg : Tg) (t : Ex) (x : PyData) (cal : Nat → List W → List Cell → Option (R × List Cell)) (G : List PyData) (l : Sl) (c : Cl) (A B : Sl → Cl → Prop) : Prop := wipK l own fun l1 => bndK tg x l1 fun l2 => wpE cal G t l2 c fun k l4 c4 => bolK k c4 fun k => cond k (A l4 c4) (B l4 c4)
theorem stepK_ok {own : List Nat} {tg : Tg} {t : Ex} {x : PyData} {l : Sl} {c : Cl} {A B : Sl → Cl → Prop} (h : stepK own tg t x cal G l c A B) : wq (testF cal G own tg t x ⟨l, c⟩) fun k l1 c1 => if k = true then A l1 c1 else B l1 c1 := by
  have h1 := wipK_ok h
  obtain ⟨l2, a, b⟩ := bndK_ok h1
  have a' : bindT tg x (wipe l own) = some l2 := a
  show wp _ _
  refine wp_on a' (wp_bd2 (wp_mono (wpE_ok t l2 c _ b) fun k s4 h4 => ?_))
  obtain ⟨r, e1, k1⟩ := bolK_ok h4
  refine wp_on1 e1 ?_
  cases r with
  | true => exact k1
  | false => exact k1
theorem lm_n {f : S → Option (List PyData × S)} {g : PyData → S → Option (Bool × S)} {l : Sl} {c : Cl} {Q : List PyData → Sl → Cl → Prop} (h : Q [] l c) : LmI f g [] l c Q := ⟨⟨_, _, rfl, h⟩⟩
theorem lm_cons {f : S → Option (List PyData × S)} {g : PyData → S → Option (Bool × S)} {x : PyData} {xs : List PyData} {l : Sl} {c : Cl} {Q : List PyData → Sl → Cl → Prop}
    (h : wq (g x ⟨l, c⟩) fun k l1 c1 => if k = true then FwI f l1 c1 (fun o l2 c2 => LmI f g xs l2 c2 fun r => Q (o ++ r)) else LmI f g xs l1 c1 Q) : LmI f g (x :: xs) l c Q := ⟨by
  show wp _ _
  simp only [lcM]
  refine wp_bd2 (wp_mono h fun k s1 hk => ?_)
  cases k with
  | true =>
    have hk' := hk
    rw [if_pos rfl] at hk'
    exact wp_bd2 (wp_mono hk'.1 fun o s2 h2 => wp_bd2 (wp_mono h2.1 fun r s3 k => ⟨_, _, rfl, k⟩))
  | false =>
    have hk' : LmI f g xs s1.sl s1.st Q := hk
    exact wp_bd2 ⟨[], s1, rfl, wp_bd2 (wp_mono hk'.1 fun r s3 k => ⟨_, _, rfl, k⟩)⟩⟩
theorem lm_c {own : List Nat} {tg : Tg} {t : Ex} {f : S → Option (List PyData × S)} {x : PyData} {xs : List PyData} {l : Sl} {c : Cl} {Q : List PyData → Sl → Cl → Prop}
    (h : stepK own tg t x cal G l c (fun l1 c1 => FwI f l1 c1 (fun o l2 c2 => LmI f (testF cal G own tg t) xs l2 c2 fun r => Q (o ++ r))) (fun l1 c1 => LmI f (testF cal G own tg t) xs l1 c1 Q)) : LmI f (testF cal G own tg t) (x :: xs) l c Q := lm_cons (stepK_ok h)
theorem fw_last {e : Ex} {l : Sl} {c : Cl} {Q : List PyData → Sl → Cl → Prop} (h : wpE cal G e l c fun y l5 c5 => fzK y fun w => (match w with
  | .d d => Q [d] l5 c5
  | _ => False)) : FwI (lastF cal G e) l c Q := ⟨by
  show wp _ _
  refine wp_bd2 (wp_mono (wpE_ok e l c _ h) fun y s5 h5 => ?_)
  obtain ⟨w, a2, b2⟩ := fzK_ok h5
  split at b2
  · exact wp_on1 (by rw [a2]) b2
  · cases b2⟩
theorem fw_mid {own : List Nat} {it : It} {f : S → Option (List PyData × S)} {g : PyData → S → Option (Bool × S)} {l : Sl} {c : Cl} {Q : List PyData → Sl → Cl → Prop} (h : wpI cal G it l c fun ys l1 c1 => noOK l1 own (Sd (decide (ys.length ≤ 16777215) = true) (LmI f g ys l1 c1 Q))) : FwI (midF cal G own it f g) l c Q := ⟨by
  show wp _ _
  refine wp_bd2 (wp_mono (wpI_ok it l c _ h) fun ys s1 h1 => ?_)
  obtain ⟨a, b, d⟩ := noOK_ok h1
  refine wp_on (a := ys) ?_ d.1
  rw [if_pos a]
  exact if_pos (of_decide_eq_true b)⟩
theorem fw_mono {f : S → Option (List PyData × S)} {l : Sl} {c : Cl} {Q Q' : List PyData → Sl → Cl → Prop} (h : FwI f l c Q) (m : ∀ r l c, Q r l c → Q' r l c) : FwI f l c Q' := ⟨wq_mono h.1 m⟩
/-- what each thing gives, put together -/
inductive RelM (P : PyData → List PyData → Prop) : List PyData → List PyData → Prop
  | nil : RelM P [] []
  | cons {x : PyData} {y : List PyData} {xs ys : List PyData} : P x y → RelM P xs ys → RelM P (x :: xs) (y ++ ys)
theorem lm_inv (I : Sl → Cl → Prop) (P : PyData → List PyData → Prop) {own : List Nat} {tg : Tg} {t : Ex} {f : S → Option (List PyData × S)} : ∀ {xs : List PyData} {l : Sl} {c : Cl} {Q : List PyData → Sl → Cl → Prop}, I l c → (∀ x ∈ xs, ∀ l c, I l c → stepK own tg t x cal G l c (fun l1 c1 => FwI f l1 c1 fun o l2 c2 => P x o ∧ I l2 c2) (fun l1 c1 => P x [] ∧ I l1 c1)) → (∀ r l c, RelM P xs r → I l c → Q r l c) → LmI f (testF cal G own tg t) xs l c Q
  | [], l, c, Q, h, b, k => lm_n (k [] l c .nil h)
  | x :: xs, l, c, Q, h, b, k => lm_cons (wq_mono (stepK_ok (b x List.mem_cons_self l c h)) fun kk l1 c1 hk => by
    cases kk with
    | true =>
      have hk' := hk
      rw [if_pos rfl] at hk'
      rw [if_pos rfl]
      exact fw_mono hk' fun o l2 c2 ⟨hp, hi⟩ => lm_inv I P hi (fun y hy => b y (List.mem_cons_of_mem _ hy)) fun r l3 c3 hr h3 => k _ l3 c3 (.cons hp hr) h3
    | false =>
      have hk' : P x [] ∧ I l1 c1 := hk
      exact lm_inv I P hk'.2 (fun y hy => b y (List.mem_cons_of_mem _ hy)) fun r l3 c3 hr h3 => k _ l3 c3 (.cons hk'.1 hr) h3)
/-- a turn of a while loop -/
def nextV (t : S → Option (Bool × S)) (f : S → Option (Fl × S)) (n : Nat) (QF : Fl → Sl → Cl → Prop) (o : Fl) (l : Sl) (c : Cl) : Prop := match o with
  | .nx => WhlI t f n l c QF
  | .ct => WhlI t f n l c QF
  | .bk => QF .nx l c
  | .rt r => QF (.rt r) l c
theorem wh_c {e : Ex} {b : Sts} {n : Nat} {l : Sl} {c : Cl} {QF : Fl → Sl → Cl → Prop} (h : wpE cal G e l c fun x l1 c1 => bolK x c1 fun k => cond k (wpSs cal G N b l1 c1 (nextV (testW cal G e) (fun s => runs cal G N b s) n QF)) (QF .nx l1 c1)) : WhlI (testW cal G e) (fun s => runs cal G N b s) (n + 1) l c QF :=
  ⟨lu_c (wq_mono (wpE_ok e l c _ h) fun x l1 c1 h1 => by
    obtain ⟨r, e1, k⟩ := bolK_ok h1
    refine ⟨r, e1, cnd_ok (fun k => wq_mono (wpSs_ok b l1 c1 _ k) fun o l2 c2 q => ?_) (fun k => q_some (nu_b k)) k⟩
    cases o with
    | nx => exact q.1
    | ct => exact q.1
    | bk => exact q
    | rt r => exact q)⟩
end
theorem k_dec {p : Prop} [Decidable p] {A B : Prop} (h1 : p → A) (h2 : ¬p → B) : cond (decide p) A B := by
  by_cases c : p
  · rw [decide_eq_true c]; exact h1 c
  · rw [decide_eq_false c]; exact h2 c
theorem k_ndec {p : Prop} [Decidable p] {A B : Prop} (h1 : ¬p → A) (h2 : p → B) : cond (!decide p) A B := by
  by_cases c : p
  · rw [decide_eq_true c]; exact h2 c
  · rw [decide_eq_false c]; exact h1 c
theorem k_t {b : Bool} {A B : Prop} (e : b = true) (h : A) : cond b A B := by rw [e]; exact h
theorem k_f {b : Bool} {A B : Prop} (e : b = false) (h : B) : cond b A B := by rw [e]; exact h
theorem k_bool {b : Bool} {A B : Prop} (h1 : b = true → A) (h2 : b = false → B) : cond b A B := by cases b <;> first | exact h1 rfl | exact h2 rfl
theorem tol_r {x : Option R} {r : R} {k : R → Prop} (e : x = some r) (h : k r) : TolR x k := ⟨r, e, h⟩
theorem tol_b {x : Option Bool} {r : Bool} {k : Bool → Prop} (e : x = some r) (h : k r) : TolB x k := ⟨r, e, h⟩
/-! an index that stays open -/
theorem getP_of : ∀ {l : List PyData} {n : Nat} {x : PyData} {k : PyData → Prop}, l[n]? = some x → k x → getP l n k
  | [], n, x, k, e, _ => by simp at e
  | y :: l, 0, x, k, e, h => by
    have e' : y = x := by simpa using e
    subst e'
    exact h
  | y :: l, n + 1, x, k, e, h => getP_of (l := l) (by simpa using e) h
theorem atD_of {xs : List PyData} {n : Nat} {x : PyData} (h : atD xs (.ofNat n) = some x) : xs[n]? = some x := by
  unfold atD L2.atI L2.ixN at h
  rw [if_pos (show 0 ≤ Int.ofNat n from Int.natCast_nonneg n)] at h
  split at h
  · exact h
  · cases h
theorem ix_l {xs : List PyData} {i : Int} {x : PyData} {k : R → Prop} (e : atD xs i = some x) (h : k (.w (.d x))) : ix2K (.list xs) (.int i) k := by
  cases i with
  | ofNat n => exact getP_of (atD_of e) h
  | negSucc n => exact ⟨_, by show (atD xs _).map _ = _; rw [e]; rfl, h⟩
theorem ix_t {xs : List PyData} {i : Int} {x : PyData} {k : R → Prop} (e : atD xs i = some x) (h : k (.w (.d x))) : ix2K (.tuple xs) (.int i) k := by
  cases i with
  | ofNat n => exact getP_of (atD_of e) h
  | negSucc n => exact ⟨_, by show (atD xs _).map _ = _; rw [e]; rfl, h⟩
theorem str_r {a : Str} {k : Bool → Prop} (h : k true) : StrE a a k := str_t (decide_eq_true rfl) h
/-! ### a body in parts -/
def takeS : Nat → Sts → Sts
  | 0, _ => .nil
  | _ + 1, .nil => .nil
  | n + 1, .cons a r => .cons a (takeS n r)
def dropS : Nat → Sts → Sts
  | 0, b => b
  | _ + 1, .nil => .nil
  | n + 1, .cons _ r => dropS n r
inductive RunI (cal : Nat → List W → List Cell → Option (R × List Cell)) (G : List PyData) (N : Nat) (b : Sts) (l : Sl) (c : Cl) (QF : Fl → Sl → Cl → Prop) : Prop
  | mk (h : wq (runs cal G N b ⟨l, c⟩) QF)
section
variable {cal : Nat → List W → List Cell → Option (R × List Cell)} {G : List PyData} {N : Nat}
theorem runs_cut : ∀ (n : Nat) (b : Sts) (l : Sl) (c : Cl) (QF : Fl → Sl → Cl → Prop), wq (runs cal G N (takeS n b) ⟨l, c⟩) (fun f l1 c1 => match f with | .nx => wq (runs cal G N (dropS n b) ⟨l1, c1⟩) QF | f => QF f l1 c1) → wq (runs cal G N b ⟨l, c⟩) QF
  | 0, b, l, c, QF, h => by
    obtain ⟨a, s, e, q⟩ := h
    simp only [takeS, runs] at e
    cases e
    exact q
  | n + 1, .nil, l, c, QF, h => by
    obtain ⟨a, s, e, q⟩ := h
    simp only [takeS, runs] at e
    cases e
    exact q
  | n + 1, .cons a r, l, c, QF, h => by
    have h' : wq (runs cal G N (.cons a (takeS n r)) ⟨l, c⟩) (fun f l1 c1 => match f with | .nx => wq (runs cal G N (dropS n r) ⟨l1, c1⟩) QF | f => QF f l1 c1) := h
    obtain ⟨f, s, e, q⟩ := h'
    have eq : ∀ r, runs cal G N (.cons a r) ⟨l, c⟩ = bd (run cal G N a ⟨l, c⟩) (fun f s1 => match f with | .nx => runs cal G N r s1 | f => some (f, s1)) := fun r => by
      simp only [runs] <;> congr 1
    rw [eq] at e
    obtain ⟨f1, s1, e1, e2⟩ := bd_some e
    rw [eq]
    refine wp_bd2 ⟨f1, s1, e1, ?_⟩
    cases f1 with
    | nx => exact runs_cut n r s1.sl s1.st QF ⟨f, s, e2, q⟩
    | bk => cases e2; exact ⟨_, _, rfl, q⟩
    | ct => cases e2; exact ⟨_, _, rfl, q⟩
    | rt x => cases e2; exact ⟨_, _, rfl, q⟩
theorem run_all {b : Sts} {l : Sl} {c : Cl} {QF : Fl → Sl → Cl → Prop} (h : wpSs cal G N b l c QF) : RunI cal G N b l c QF := ⟨wpSs_ok b l c QF h⟩
theorem run_cut (n : Nat) (I : Sl → Cl → Prop) {b : Sts} {l : Sl} {c : Cl} {QF : Fl → Sl → Cl → Prop} (h : wpSs cal G N (takeS n b) l c (fun f l1 c1 => match f with | .nx => I l1 c1 | f => QF f l1 c1)) (k : ∀ l1 c1, I l1 c1 → RunI cal G N (dropS n b) l1 c1 QF) : RunI cal G N b l c QF :=
  ⟨runs_cut n b l c QF (wq_mono (wpSs_ok _ l c _ h) fun f l1 c1 q => by
    cases f with
    | nx => exact (k l1 c1 q).1
    | bk => exact q
    | ct => exact q
    | rt x => exact q)⟩
theorem into_run {P : List Df} {wf k : Nat} {f : Nat} {np nn : Nat} {body : Sts} {ws : List W} {c : Cl} {Q : R → Cl → Prop} (h : P[f]? = some ⟨np, nn, body⟩) (hl : ws.length = np) (hw : iniK ws (nn - np) fun l => RunI (call P G wf k) G wf body l c (finQ Q)) : CallI (call P G wf (k + 1)) f ws c Q := by
  obtain ⟨l, a, b⟩ := iniK_ok hw
  exact ⟨wcq_call h hl a b.1⟩
/-- a turn, run in parts -/
def turnR (tg : Tg) (b : Sts) (x : PyData) (cal : Nat → List W → List Cell → Option (R × List Cell)) (G : List PyData) (N : Nat) (l : Sl) (c : Cl) (QF : Fl → Sl → Cl → Prop) : Prop := bndK tg x l fun l1 => RunI cal G N b l1 c QF
theorem turnR_ok {tg : Tg} {b : Sts} {x : PyData} {l : Sl} {c : Cl} {QF : Fl → Sl → Cl → Prop} (h : turnR tg b x cal G N l c QF) : wq (turnF cal G N tg b x ⟨l, c⟩) QF := by
  obtain ⟨l1, a, b1⟩ := bndK_ok h
  exact q_f a b1.1
theorem lp_invR (I : Sl → Cl → Prop) {tg : Tg} {b : Sts} {xs : List PyData} {l : Sl} {c : Cl} {QF : Fl → Sl → Cl → Prop} (h : I l c) (t : ∀ x ∈ xs, ∀ l c, I l c → turnR tg b x cal G N l c fun fl l c => (fl = .nx ∨ fl = .ct) ∧ I l c) (k : ∀ l c, I l c → QF .nx l c) : LoopI (turnF cal G N tg b) xs l c QF :=
  ⟨lq_loop I h (fun x hx l c hi => turnR_ok (t x hx l c hi)) k⟩
theorem lp_stepR (I : List PyData → Sl → Cl → Prop) {tg : Tg} {b : Sts} {xs : List PyData} {l : Sl} {c : Cl} {QF : Fl → Sl → Cl → Prop} (h : I xs l c) (t : ∀ x xs l c, I (x :: xs) l c → turnR tg b x cal G N l c fun fl l c => match fl with | .nx => I xs l c | .ct => I xs l c | .bk => QF .nx l c | .rt r => QF (.rt r) l c) (k : ∀ l c, I [] l c → QF .nx l c) : LoopI (turnF cal G N tg b) xs l c QF :=
  ⟨lq_step I (fun x xs l c hi => turnR_ok (t x xs l c hi)) k xs l c h⟩
end
end Xp

/-! N1: fractions in their lowest terms. -/
namespace Xp
open PySem
theorem o_in2 {s : S} {x y : R} {p a b : Str} {Q : Bool → S → Prop} (hx : x.dat s.st = some (.str p)) (hy : y.dat s.st = some (.tuple [.str a, .str b])) (h : (okEq (.str p) && okEq (.list [.str a, .str b])) = true) (k : Q (decide (a = p) || decide (b = p)) s) : opC .isin x y s Q := ⟨_, by
  rw [hx, hy]
  show (if (okEq (.str p) && okEq (.list [.str a, .str b])) = true then some (List.any [PyData.str a, .str b] fun y => PyData.eqv y (.str p)) else none) = _
  rw [if_pos h]
  congr 1
  simp only [List.any_cons, List.any_nil, PyData.eqv, Bool.or_false]
  rw [Bool.eq_iff_iff]
  simp, k⟩
def lo (t b : Int) : Int × Int := (t / (Int.gcd t b : Int), b / (Int.gcd t b : Int))
theorem gcd_pos {t b : Int} (h : 0 < b) : 0 < (Int.gcd t b : Int) := by
  have := Int.gcd_pos_of_ne_zero_right t (Int.ne_of_gt h)
  omega
theorem lo_t {t b : Int} : (lo t b).1 * (Int.gcd t b : Int) = t := Int.ediv_mul_cancel (Int.gcd_dvd_left t b)
theorem lo_b {t b : Int} : (lo t b).2 * (Int.gcd t b : Int) = b := Int.ediv_mul_cancel (Int.gcd_dvd_right t b)
theorem lo_pos {t b : Int} (h : 0 < b) : 0 < (lo t b).2 := by
  have h1 := gcd_pos (t := t) h
  have h2 := lo_b (t := t) (b := b)
  rw [← h2] at h
  refine Int.lt_of_mul_lt_mul_right (?_ : 0 * (Int.gcd t b : Int) < _ * (Int.gcd t b : Int)) (Int.le_of_lt h1)
  rw [Int.zero_mul]
  exact h
theorem lo_cop {t b : Int} (h : 0 < b) : Int.gcd (lo t b).1 (lo t b).2 = 1 := by
  have h1 : 0 < Int.gcd t b := Int.gcd_pos_of_ne_zero_right t (Int.ne_of_gt h)
  exact Int.gcd_ediv_gcd_ediv_gcd h1
theorem lo_id {t b : Int} (h : Int.gcd t b = 1) : lo t b = (t, b) := by
  unfold lo
  rw [h]
  simp
theorem lo_uniq {t b u c : Int} (hb : 0 < b) (hc : 0 < c) (h : t * c = u * b) : lo t b = lo u c := by
  have p1 := lo_pos (t := t) hb
  have p2 := lo_pos (t := u) hc
  have c1 := lo_cop (t := t) hb
  have c2 := lo_cop (t := u) hc
  have g1 := gcd_pos (t := t) hb
  have g2 := gcd_pos (t := u) hc
  have e : (lo t b).1 * (lo u c).2 = (lo u c).1 * (lo t b).2 := by
    have h1 := lo_t (t := t) (b := b)
    have h2 := lo_b (t := t) (b := b)
    have h3 := lo_t (t := u) (b := c)
    have h4 := lo_b (t := u) (b := c)
    generalize (lo t b).1 = t1 at *
    generalize (lo t b).2 = b1 at *
    generalize (lo u c).1 = u1 at *
    generalize (lo u c).2 = c1 at *
    generalize (Int.gcd t b : Int) = g at *
    generalize (Int.gcd u c : Int) = k at *
    subst h1 h2 h3 h4
    have : (t1 * c1) * (g * k) = (u1 * b1) * (g * k) := by
      have e1 : t1 * c1 * (g * k) = t1 * g * (c1 * k) := by ac_rfl
      have e2 : u1 * b1 * (g * k) = u1 * k * (b1 * g) := by ac_rfl
      rw [e1, e2, h]
    exact Int.eq_of_mul_eq_mul_right (Int.ne_of_gt (Int.mul_pos g1 g2)) this
  generalize hx : lo t b = x at *
  generalize hy : lo u c = y at *
  obtain ⟨t1, b1⟩ := x
  obtain ⟨u1, d1⟩ := y
  simp only at *
  have n1 : b1.natAbs ∣ d1.natAbs := by
    have : b1.natAbs ∣ t1.natAbs * d1.natAbs := by
      rw [← Int.natAbs_mul, e, Int.natAbs_mul]
      exact Nat.dvd_mul_left _ _
    exact (Nat.Coprime.symm c1).dvd_of_dvd_mul_left this
  have n2 : d1.natAbs ∣ b1.natAbs := by
    have : d1.natAbs ∣ u1.natAbs * b1.natAbs := by
      rw [← Int.natAbs_mul, ← e, Int.natAbs_mul]
      exact Nat.dvd_mul_left _ _
    exact (Nat.Coprime.symm c2).dvd_of_dvd_mul_left this
  have n3 := Nat.dvd_antisymm n1 n2
  have e2 : b1 = d1 := by omega
  subst e2
  have e3 : t1 = u1 := Int.eq_of_mul_eq_mul_right (Int.ne_of_gt p1) e
  rw [e3]
theorem lo_cross {t b : Int} : (lo t b).1 * b = t * (lo t b).2 := by
  have h1 := lo_t (t := t) (b := b)
  have h2 := lo_b (t := t) (b := b)
  generalize (lo t b).1 = t1 at *
  generalize (lo t b).2 = b1 at *
  generalize (Int.gcd t b : Int) = g at *
  rw [← h1, ← h2]
  ac_rfl
theorem lo_floor {t b : Int} (h : 0 < b) : (lo t b).1 / (lo t b).2 = t / b := by
  have h1 := lo_t (t := t) (b := b)
  have h2 := lo_b (t := t) (b := b)
  have g1 := gcd_pos (t := t) h
  generalize (lo t b).1 = t1 at *
  generalize (lo t b).2 = b1 at *
  generalize (Int.gcd t b : Int) = g at *
  rw [← h1, ← h2, Int.mul_ediv_mul_of_pos_left _ _ g1]
theorem scale_div {x y c : Int} (hc : 0 < c) : x / y = (x * c) / (y * c) := (Int.mul_ediv_mul_of_pos_left _ _ hc).symm
/-- rounding hangs on the ratio alone -/
theorem round_ratio {a b c d : Int} (hb : 0 < b) (hd : 0 < d) (h : a * d = c * b) : (2 * a + b) / (2 * b) = (2 * c + d) / (2 * d) := by
  rw [scale_div (x := 2 * a + b) (y := 2 * b) hd, scale_div (x := 2 * c + d) (y := 2 * d) hb]
  have e1 : (2 * a + b) * d = (2 * c + d) * b := by
    rw [Int.add_mul, Int.add_mul, Int.mul_assoc, h, Int.mul_assoc, Int.mul_comm b d]
  have e2 : 2 * b * d = 2 * d * b := by ac_rfl
  rw [e1, e2]
theorem div_le {t g : Int} (h : 0 < g) : (t / g).natAbs ≤ t.natAbs := Int.natAbs_ediv_le_natAbs t g
theorem lo_B1 {k : Nat} {t b : Int} (hb : 0 < b) (h : B k t) : B k (lo t b).1 := h.le (div_le (gcd_pos hb))
theorem lo_B2 {k : Nat} {t b : Int} (hb : 0 < b) (h : B k b) : B k (lo t b).2 := h.le (div_le (gcd_pos hb))
end Xp

/-! N2: rational numbers and their heights. -/
namespace Xp
open PySem
/-- the height of a fraction -/
def Hq (k : Nat) (q : Rat) : Prop := q.num.natAbs < 2 ^ k ∧ q.den < 2 ^ k
theorem Hq.mono {j k : Nat} {q : Rat} (h : Hq j q) (l : j ≤ k) : Hq k q := ⟨Nat.lt_of_lt_of_le h.1 (Nat.pow_le_pow_right (by decide) l), Nat.lt_of_lt_of_le h.2 (Nat.pow_le_pow_right (by decide) l)⟩
theorem divInt_le {t b : Int} (hb : b ≠ 0) : (Rat.divInt t b).num.natAbs ≤ t.natAbs ∧ (Rat.divInt t b).den ≤ b.natAbs := by
  rw [Rat.num_divInt, Rat.den_divInt, if_neg hb]
  constructor
  · have h1 : (b.sign * t).natAbs = t.natAbs := by
      rw [Int.natAbs_mul, Int.natAbs_sign_of_ne_zero hb, Nat.one_mul]
    rw [← h1]
    exact Int.natAbs_ediv_le_natAbs _ _
  · exact Nat.div_le_self _ _
theorem Hq.of {k : Nat} {t b : Int} (hb : b ≠ 0) (h1 : B k t) (h2 : B k b) : Hq k (Rat.divInt t b) := ⟨Nat.lt_of_le_of_lt (divInt_le hb).1 h1, Nat.lt_of_le_of_lt (divInt_le hb).2 h2⟩
theorem den_ne {q : Rat} : (q.den : Int) ≠ 0 := by have := q.den_nz; omega
theorem den_pos {q : Rat} : (0 : Int) < (q.den : Int) := by have := q.den_nz; omega
theorem add_div {a b : Rat} : Rat.divInt (a.num * b.den + b.num * a.den) ((a.den : Int) * b.den) = a + b := by
  rw [Rat.add_def', ← Rat.divInt_ofNat]; push_cast; rfl
theorem sub_div {a b : Rat} : Rat.divInt (a.num * b.den - b.num * a.den) ((a.den : Int) * b.den) = a - b := by
  rw [Rat.sub_def', ← Rat.divInt_ofNat]; push_cast; rfl
theorem mul_div {a b : Rat} : Rat.divInt (a.num * b.num) ((a.den : Int) * b.den) = a * b := by
  rw [Rat.mul_def', ← Rat.divInt_ofNat]; push_cast; rfl
theorem num_ne {b : Rat} (h : b ≠ 0) : b.num ≠ 0 := fun z => h (Rat.num_eq_zero.mp z)
theorem div_div {a b : Rat} (h : b ≠ 0) : Rat.divInt (a.num * b.den) ((a.den : Int) * b.num) = a / b := by
  rw [Rat.div_def, Rat.inv_def]
  conv => rhs; rw [← Rat.num_divInt_den a, Rat.divInt_mul_divInt]
theorem cross_sub {a b : Rat} : a - b = Rat.divInt (a.num * b.den - b.num * a.den) ((a.den : Int) * b.den) := sub_div.symm
theorem lt_cross {a b : Rat} : (a.num * b.den - b.num * a.den < 0) = (a < b) := by
  rw [Rat.lt_iff]; apply propext; omega
theorem gt_cross {a b : Rat} : (0 < a.num * b.den - b.num * a.den) = (b < a) := by
  rw [Rat.lt_iff]; apply propext; omega
theorem whole_q {t : Int} : (Rat.divInt t 1) = (t : Rat) := by
  rw [Rat.divInt_eq_div]; grind
theorem floor_q {q : Rat} : q.num / (q.den : Int) = q.floor := (Rat.floor_def q).symm
theorem B.addp {j k n : Nat} {a b : Int} (h : B j a) (l : B k b) (hj : j < n) (hk : k < n) : B n (a + b) := by
  unfold B at *
  obtain ⟨m, rfl⟩ : ∃ m, n = m + 1 := ⟨n - 1, by omega⟩
  have h1 : 2 ^ j ≤ 2 ^ m := Nat.pow_le_pow_right (by decide) (by omega)
  have h2 : 2 ^ k ≤ 2 ^ m := Nat.pow_le_pow_right (by decide) (by omega)
  rw [Nat.pow_succ]
  omega
theorem B.mulp {j k : Nat} {a b : Int} (h : B j a) (l : B k b) : B (j + k) (a * b) := by
  unfold B at *
  rw [Int.natAbs_mul, Nat.pow_add]
  exact Nat.mul_lt_mul'' h l
theorem Hq.n {k : Nat} {q : Rat} (h : Hq k q) : B k q.num := h.1
theorem Hq.d {k : Nat} {q : Rat} (h : Hq k q) : B k (q.den : Int) := by have := h.2; unfold B; omega
theorem B.neg' {k : Nat} {a : Int} (h : B k a) : B k (-a) := by unfold B at *; omega
theorem B.mono' {j k : Nat} {a : Int} (h : B j a) (l : j ≤ k) : B k a := Nat.lt_of_lt_of_le h (Nat.pow_le_pow_right (by decide) l)
theorem Hq.add {j k : Nat} {a b : Rat} (h : Hq j a) (l : Hq k b) : Hq (j + k + 1) (a + b) := by
  rw [← add_div]
  refine Hq.of (Int.mul_ne_zero den_ne den_ne) ?_ ((h.d.mulp l.d).mono' (by omega))
  exact (h.n.mulp l.d).addp (l.n.mulp h.d) (by omega) (by omega)
theorem Hq.sub {j k : Nat} {a b : Rat} (h : Hq j a) (l : Hq k b) : Hq (j + k + 1) (a - b) := by
  rw [← sub_div]
  refine Hq.of (Int.mul_ne_zero den_ne den_ne) ?_ ((h.d.mulp l.d).mono' (by omega))
  rw [Int.sub_eq_add_neg]
  exact (h.n.mulp l.d).addp (l.n.mulp h.d).neg' (by omega) (by omega)
theorem Hq.mul {j k : Nat} {a b : Rat} (h : Hq j a) (l : Hq k b) : Hq (j + k) (a * b) := by
  rw [← mul_div]
  exact Hq.of (Int.mul_ne_zero den_ne den_ne) (h.n.mulp l.n) (h.d.mulp l.d)
theorem Hq.div {j k : Nat} {a b : Rat} (hb : b ≠ 0) (h : Hq j a) (l : Hq k b) : Hq (j + k) (a / b) := by
  rw [← div_div hb]
  exact Hq.of (Int.mul_ne_zero den_ne (num_ne hb)) (h.n.mulp l.d) (h.d.mulp l.n)
theorem Hq.neg {j : Nat} {a : Rat} (h : Hq j a) : Hq j (-a) := by
  refine ⟨?_, ?_⟩
  · rw [Rat.neg_num]; exact h.n.neg'
  · rw [Rat.neg_den]; exact h.2
theorem Hq.int {j : Nat} {t : Int} (h : B j t) (l : 0 < j) : Hq j (t : Rat) := ⟨h, by show 1 < 2 ^ j; exact Nat.one_lt_two_pow (by omega)⟩
theorem round_q {q : Rat} : (2 * q.num + q.den) / (2 * (q.den : Int)) = (q + 1 / 2).floor := by
  have hd := den_pos (q := q)
  have e : q + 1 / 2 = Rat.divInt (2 * q.num + q.den) (2 * q.den) := by
    rw [Rat.divInt_eq_div]
    have h1 : (q.num : Rat) = q * q.den := by
      have := Rat.mkRat_self q
      rw [Rat.mkRat_eq_div] at this
      conv => rhs; lhs; rw [← this]
      rw [Rat.div_mul_cancel]
      exact_mod_cast q.den_nz
    have h2 : ((q.den : Nat) : Rat) ≠ 0 := by exact_mod_cast q.den_nz
    push_cast
    grind
  rw [e, Rat.floor_def, Rat.num_divInt, Rat.den_divInt, if_neg (by omega)]
  have hs : (2 * (q.den : Int)).sign = 1 := Int.sign_eq_one_of_pos (by omega)
  rw [hs, Int.one_mul]
  have hg : 0 < (Int.gcd (2 * (q.den : Int)) (2 * q.num + q.den) : Int) := by
    have := Int.gcd_pos_of_ne_zero_left (2 * q.num + q.den) (show (2 * (q.den : Int)) ≠ 0 by omega)
    omega
  have d1 := Int.gcd_dvd_left (2 * (q.den : Int)) (2 * q.num + q.den)
  have d2 := Int.gcd_dvd_right (2 * (q.den : Int)) (2 * q.num + q.den)
  have h3 : (((2 * (q.den : Int)).natAbs / (Int.gcd (2 * (q.den : Int)) (2 * q.num + q.den)) : Nat) : Int) = (2 * (q.den : Int)) / (Int.gcd (2 * (q.den : Int)) (2 * q.num + q.den) : Int) := by
    rw [Int.natCast_ediv, Int.natAbs_of_nonneg (by omega)]
  rw [h3]
  generalize (Int.gcd (2 * (q.den : Int)) (2 * q.num + q.den) : Int) = g at *
  obtain ⟨x, hx⟩ := d2
  obtain ⟨y, hy⟩ := d1
  rw [hx, hy, Int.mul_ediv_mul_of_pos _ _ hg, Int.mul_ediv_cancel_left _ (by omega), Int.mul_ediv_cancel_left _ (by omega)]
end Xp

/-! N3: rational numbers of a bounded size and a known denominator. -/
namespace Xp
open PySem
def Bd (V M : Nat) (q : Rat) : Prop := q.num.natAbs ≤ V * q.den ∧ q.den ∣ M
theorem Bd.mono {V V' M M' : Nat} {q : Rat} (h : Bd V M q) (hv : V ≤ V') (hm : M ∣ M') : Bd V' M' q := ⟨Nat.le_trans h.1 (Nat.mul_le_mul_right _ hv), Nat.dvd_trans h.2 hm⟩
theorem divInt_cross {N : Int} {D : Nat} (hD : D ≠ 0) : (Rat.divInt N D).num * (D : Int) = N * ((Rat.divInt N D).den : Int) := by
  have h := Rat.num_divInt_den (Rat.divInt N D)
  exact (Rat.divInt_eq_divInt_iff den_ne (by omega)).mp h
theorem Bd.of {V D M : Nat} {N : Int} (hD : D ≠ 0) (hN : N.natAbs ≤ V * D) (hM : D ∣ M) : Bd V M (Rat.divInt N D) := by
  refine ⟨?_, ?_⟩
  · have h := congrArg Int.natAbs (divInt_cross (N := N) hD)
    rw [Int.natAbs_mul, Int.natAbs_mul] at h
    have h2 : (Rat.divInt N D).num.natAbs * D ≤ (V * (Rat.divInt N D).den) * D := by
      have e1 : (D : Int).natAbs = D := rfl
      have e2 : (((Rat.divInt N D).den : Nat) : Int).natAbs = (Rat.divInt N D).den := rfl
      rw [e1, e2] at h
      rw [h]
      have := Nat.mul_le_mul_right (Rat.divInt N D).den hN
      have e3 : V * D * (Rat.divInt N D).den = V * (Rat.divInt N D).den * D := by ac_rfl
      omega
    exact Nat.le_of_mul_le_mul_right h2 (by omega)
  · refine Nat.dvd_trans ?_ hM
    rw [Rat.den_divInt, if_neg (by omega)]
    exact Nat.div_dvd_of_dvd (Int.gcd_dvd_natAbs_left _ _)
theorem Bd.hq {V M k : Nat} {q : Rat} (h : Bd V M q) (hM : 0 < M) (h1 : M < 2 ^ k) (h2 : V * M < 2 ^ k) : Hq k q := by
  have hd := Nat.le_of_dvd hM h.2
  refine ⟨Nat.lt_of_le_of_lt (Nat.le_trans h.1 (Nat.mul_le_mul_left _ hd)) h2, Nat.lt_of_le_of_lt hd h1⟩
theorem Bd.mul {V V' M M' : Nat} {a b : Rat} (h : Bd V M a) (l : Bd V' M' b) : Bd (V * V') (M * M') (a * b) := by
  rw [← mul_div]
  have e : ((a.den : Int) * b.den) = ((a.den * b.den : Nat) : Int) := by push_cast; rfl
  rw [e]
  refine Bd.of (Nat.mul_ne_zero a.den_nz b.den_nz) ?_ (Nat.mul_dvd_mul h.2 l.2)
  rw [Int.natAbs_mul]
  have := Nat.mul_le_mul h.1 l.1
  have e3 : V * a.den * (V' * b.den) = V * V' * (a.den * b.den) := by ac_rfl
  omega
theorem over_M {M : Nat} {a : Rat} (hM : 0 < M) (h : a.den ∣ M) : a = Rat.divInt (a.num * (M / a.den : Nat)) M := by
  obtain ⟨k, rfl⟩ := h
  have ha : 0 < a.den := Nat.pos_of_ne_zero a.den_nz
  have hk : 0 < k := Nat.pos_of_mul_pos_left hM
  rw [Nat.mul_div_cancel_left _ ha]
  conv => lhs; rw [← Rat.num_divInt_den a]
  push_cast
  rw [Rat.divInt_mul_right (by omega)]
theorem Bd.num {V M : Nat} {a : Rat} (h : Bd V M a) : (a.num * (M / a.den : Nat)).natAbs ≤ V * M := by
  obtain ⟨k, rfl⟩ := h.2
  have ha : 0 < a.den := Nat.pos_of_ne_zero a.den_nz
  rw [Nat.mul_div_cancel_left _ ha, Int.natAbs_mul]
  have e1 : ((k : Nat) : Int).natAbs = k := rfl
  rw [e1]
  have := Nat.mul_le_mul_right k h.1
  rw [Nat.mul_assoc] at this
  exact this
theorem Bd.add {V V' M : Nat} {a b : Rat} (hM : 0 < M) (h : Bd V M a) (l : Bd V' M b) : Bd (V + V') M (a + b) := by
  rw [over_M hM h.2, over_M hM l.2, Rat.divInt_add_divInt _ _ (by omega) (by omega)]
  have e : (a.num * ((M / a.den : Nat) : Int) * (M : Int) + b.num * ((M / b.den : Nat) : Int) * (M : Int)) = (a.num * ((M / a.den : Nat) : Int) + b.num * ((M / b.den : Nat) : Int)) * M := by rw [Int.add_mul]
  rw [e, Rat.divInt_mul_right (by omega)]
  refine Bd.of (by omega) ?_ (Nat.dvd_refl _)
  have h1 := h.num
  have h2 := l.num
  rw [Nat.add_mul]
  omega
theorem Bd.neg {V M : Nat} {a : Rat} (h : Bd V M a) : Bd V M (-a) := by
  refine ⟨?_, ?_⟩
  · rw [Rat.neg_num, Rat.neg_den, Int.natAbs_neg]; exact h.1
  · rw [Rat.neg_den]; exact h.2
theorem Bd.sub {V V' M : Nat} {a b : Rat} (hM : 0 < M) (h : Bd V M a) (l : Bd V' M b) : Bd (V + V') M (a - b) := by
  rw [Rat.sub_eq_add_neg]
  exact h.add hM l.neg
theorem Bd.z {V M : Nat} : Bd V M 0 := ⟨Nat.zero_le _, Nat.one_dvd _⟩
theorem Bd.o {V M : Nat} (h : 1 ≤ V) : Bd V M 1 := ⟨by show 1 ≤ V * 1; omega, Nat.one_dvd _⟩
end Xp

/-! Sh: what may be shown. -/
namespace Xp
open PySem PyProof.Rows
theorem nat_len {k n : Nat} (hk : 1 ≤ k) (h : n < 2 ^ k) : (Nat.repr n).length ≤ k := by
  have h10 : n < 10 ^ k := Nat.lt_of_lt_of_le h (Nat.pow_le_pow_left (by decide) k)
  have := toDigits_len_pow (b := 10) (by decide) hk h10
  simpa [Nat.repr] using this
theorem int_len {k : Nat} {a : Int} (hk : 1 ≤ k) (h : B k a) : (Str.ofString (toString a)).length ≤ k + 1 := by
  rw [ofString_len]
  unfold B at h
  cases a with
  | ofNat m =>
    have := nat_len hk (show m < 2 ^ k from h)
    show (Nat.repr m).length ≤ _
    omega
  | negSucc m =>
    have := nat_len hk (show m + 1 < 2 ^ k from h)
    show ("-" ++ Nat.repr (m + 1)).length ≤ _
    have h1 : "-".length = 1 := by first | rfl | decide
    rw [String.length_append]
    omega
theorem sh_of {p : PyData} (h1 : p.showable = true) (h2 : p.hasDict = false) (h3 : p.depth ≤ 64) (h4 : p.shown.length ≤ 16777216) : showOk p = true := by
  unfold showOk
  rw [h1, h2, decide_eq_true h3, decide_eq_true h4]
  rfl
theorem shI {a : Int} (h : B 1000 a) : showOk (.int a) = true := by
  have h1 := log_of h
  have h2 := int_len (by decide) h
  refine sh_of (decide_eq_true (by omega)) rfl (by simp only [PyData.depth]; decide) ?_
  show (Str.ofString (toString a)).length ≤ _
  omega
theorem shT {a b : Int} (h : B 1000 a) (l : B 1000 b) : showOk (.tuple [.int a, .int b]) = true := by
  have h1 := log_of h
  have l1 := log_of l
  have h2 := int_len (by decide) h
  have l2 := int_len (by decide) l
  refine sh_of ?_ rfl (by simp only [PyData.depth, PyData.depthAll]; simp) ?_
  · simp only [PyData.showable, PyData.showableAll, Bool.and_eq_true, decide_eq_true_eq]
    exact ⟨by omega, by omega, trivial⟩
  · have j := join_length_add [(Str.ofString (toString a)), (Str.ofString (toString b))] (by simp)
    simp only [piled, List.map_cons, List.map_nil, List.sum_cons, List.sum_nil] at j
    show (tupleText [(Str.ofString (toString a)), (Str.ofString (toString b))]).length ≤ _
    unfold tupleText
    rw [Str.length_append, Str.length_append]
    have c1 : (Str.ofString "(").length = 1 := by first | rfl | decide
    have c2 : (Str.ofString (if ([(Str.ofString (toString a)), (Str.ofString (toString b))].length == 1) = true then ",)" else ")")).length ≤ 2 := by
      rw [if_neg (by simp)]
      have : (Str.ofString ")").length = 1 := by first | rfl | decide
      omega
    omega
/-- what may be shown, with its depth and its length -/
structure Ok (p : PyData) (t L : Nat) : Prop where
  s : p.showable = true
  d : p.hasDict = false
  h : p.depth ≤ t
  l : p.shown.length ≤ L
theorem Ok.ok {p : PyData} {t L : Nat} (o : Ok p t L) (ht : t ≤ 64) (hL : L ≤ 16777216) : showOk p = true := sh_of o.s o.d (Nat.le_trans o.h ht) (Nat.le_trans o.l hL)
theorem Ok.mono {p : PyData} {t L t' L' : Nat} (o : Ok p t L) (ht : t ≤ t') (hL : L ≤ L') : Ok p t' L' := ⟨o.s, o.d, Nat.le_trans o.h ht, Nat.le_trans o.l hL⟩
theorem ok_int {a : Int} (h : B 64 a) : Ok (.int a) 0 65 :=
  ⟨decide_eq_true (by have := log_of h; omega), rfl, by simp only [PyData.depth]; exact Nat.le_refl _, int_len (by decide) h⟩
theorem ok_none : Ok .none 0 4 := ⟨rfl, rfl, by simp only [PyData.depth]; exact Nat.le_refl _, by show (Str.ofString "None").length ≤ 4; first | rfl | decide⟩
theorem all_s : ∀ {xs : List PyData}, (∀ x ∈ xs, x.showable = true) → PyData.showableAll xs = true
  | [], _ => by simp only [PyData.showableAll]
  | x :: xs, h => by
    simp only [PyData.showableAll, Bool.and_eq_true]
    exact ⟨h x List.mem_cons_self, all_s fun y hy => h y (List.mem_cons_of_mem _ hy)⟩
theorem all_d : ∀ {xs : List PyData}, (∀ x ∈ xs, x.hasDict = false) → PyData.hasDictAll xs = false
  | [], _ => by simp only [PyData.hasDictAll]
  | x :: xs, h => by
    simp only [PyData.hasDictAll, Bool.or_eq_false_iff]
    exact ⟨h x List.mem_cons_self, all_d fun y hy => h y (List.mem_cons_of_mem _ hy)⟩
theorem all_h {t : Nat} : ∀ {xs : List PyData}, (∀ x ∈ xs, x.depth ≤ t) → PyData.depthAll xs ≤ t
  | [], _ => by simp only [PyData.depthAll]; exact Nat.zero_le _
  | x :: xs, h => by
    simp only [PyData.depthAll]
    exact Nat.max_le.mpr ⟨h x List.mem_cons_self, all_h fun y hy => h y (List.mem_cons_of_mem _ hy)⟩
theorem all_l {L : Nat} : ∀ {xs : List PyData}, (∀ x ∈ xs, x.shown.length ≤ L) → piled (PyData.shownAll xs) ≤ xs.length * (L + 2) ∧ (PyData.shownAll xs).length = xs.length
  | [], _ => ⟨by simp [PyData.shownAll, piled], by simp [PyData.shownAll]⟩
  | x :: xs, h => by
    obtain ⟨h1, h2⟩ := all_l (xs := xs) fun y hy => h y (List.mem_cons_of_mem _ hy)
    have h3 := h x List.mem_cons_self
    simp only [PyData.shownAll, piled, List.map_cons, List.sum_cons, List.length_cons] at *
    refine ⟨?_, by omega⟩
    have : (xs.length + 1) * (L + 2) = xs.length * (L + 2) + (L + 2) := Nat.succ_mul _ _
    omega
theorem ok_tup {xs : List PyData} {t L n : Nat} (h : ∀ x ∈ xs, Ok x t L) (hn : xs.length ≤ n) : Ok (.tuple xs) (t + 1) (n * (L + 2) + 4) := by
  refine ⟨?_, ?_, ?_, ?_⟩
  · simp only [PyData.showable]
    exact all_s fun x hx => (h x hx).s
  · simp only [PyData.hasDict]
    exact all_d fun x hx => (h x hx).d
  · simp only [PyData.depth]
    have := all_h (t := t) fun x hx => (h x hx).h
    omega
  · obtain ⟨h1, h2⟩ := all_l (L := L) (xs := xs) fun x hx => (h x hx).l
    have h3 : xs.length * (L + 2) ≤ n * (L + 2) := Nat.mul_le_mul_right _ hn
    show (tupleText (PyData.shownAll xs)).length ≤ _
    unfold tupleText
    rw [Str.length_append, Str.length_append]
    have c1 : (Str.ofString "(").length = 1 := by first | rfl | decide
    have c2 : (Str.ofString (if ((PyData.shownAll xs).length == 1) = true then ",)" else ")")).length ≤ 2 := by
      split
      · have : (Str.ofString ",)").length = 2 := by first | rfl | decide
        omega
      · have : (Str.ofString ")").length = 1 := by first | rfl | decide
        omega
    by_cases e : PyData.shownAll xs = []
    · rw [e] at c2 ⊢
      have : ((Str.ofString ", ").join []).length = 0 := by first | rfl | decide
      omega
    · have j := join_length_add _ e
      omega
end Xp

/-! Eqs: what may be compared. -/
namespace Xp
open PySem PyProof.Rows
structure Eqd (p : PyData) (t : Nat) : Prop where
  l : p.canLay0 = true
  h : p.depth ≤ t
theorem Eqd.ok {p : PyData} {t : Nat} (o : Eqd p t) (ht : t ≤ 64) : okEq p = true := by
  show (p.canLay0 && decide (p.depth ≤ 64)) = true
  rw [o.l, decide_eq_true (Nat.le_trans o.h ht)]
  rfl
theorem Eqd.mono {p : PyData} {t t' : Nat} (o : Eqd p t) (h : t ≤ t') : Eqd p t' := ⟨o.l, Nat.le_trans o.h h⟩
theorem eqd_none : Eqd .none 0 := ⟨rfl, by simp [PyData.depth]⟩
theorem eqd_bool {b : Bool} : Eqd (.bool b) 0 := ⟨rfl, by simp [PyData.depth]⟩
theorem eqd_int {i : Int} : Eqd (.int i) 0 := ⟨rfl, by simp [PyData.depth]⟩
theorem eqd_str {x : Str} (h : PyData.canLay0 (.str x) = true) : Eqd (.str x) 0 := ⟨h, by simp [PyData.depth]⟩
theorem all_lay : ∀ {xs : List PyData}, (∀ x ∈ xs, x.canLay0 = true) → PyData.canLayAll0 xs = true
  | [], _ => by simp only [PyData.canLayAll0]
  | x :: xs, h => by
    simp only [PyData.canLayAll0, Bool.and_eq_true]
    exact ⟨h x List.mem_cons_self, all_lay fun y hy => h y (List.mem_cons_of_mem _ hy)⟩
theorem eqd_tup {xs : List PyData} {t : Nat} (h : ∀ x ∈ xs, Eqd x t) : Eqd (.tuple xs) (t + 1) := by
  refine ⟨?_, ?_⟩
  · simp only [PyData.canLay0]
    exact all_lay fun x hx => (h x hx).l
  · simp only [PyData.depth]
    have := all_h (t := t) fun x hx => (h x hx).h
    omega
theorem eqd_list {xs : List PyData} {t : Nat} (h : ∀ x ∈ xs, Eqd x t) : Eqd (.list xs) (t + 1) := by
  refine ⟨?_, ?_⟩
  · simp only [PyData.canLay0]
    exact all_lay fun x hx => (h x hx).l
  · simp only [PyData.depth]
    have := all_h (t := t) fun x hx => (h x hx).h
    omega
theorem ceq {p q : PyData} {t u : Nat} (h : Eqd p t) (l : Eqd q u) (ht : t ≤ 64) (hu : u ≤ 64) (hp : ∀ a b, p = .str a → q = .str b → False) : cmp2 .eq p q = some (PyData.eqv p q) := by
  have e : (okEq p && okEq q) = true := by rw [h.ok ht, l.ok hu]; rfl
  cases p with
  | str a => cases q with
    | str b => exact (hp a b rfl rfl).elim
    | _ => exact if_pos e
  | _ => exact if_pos e
theorem cne {p q : PyData} {t u : Nat} (h : Eqd p t) (l : Eqd q u) (ht : t ≤ 64) (hu : u ≤ 64) (hp : ∀ a b, p = .str a → q = .str b → False) : cmp2 .ne p q = some (!PyData.eqv p q) := by
  have e : (okEq p && okEq q) = true := by rw [h.ok ht, l.ok hu]; rfl
  cases p with
  | str a => cases q with
    | str b => exact (hp a b rfl rfl).elim
    | _ => exact if_pos e
  | _ => exact if_pos e
theorem eqd_nilL : Eqd (.list []) 1 := eqd_list (t := 0) (by simp)
theorem eqd_nilT : Eqd (.tuple []) 1 := eqd_tup (t := 0) (by simp)
theorem eqv_nilL {xs : List PyData} : PyData.eqv (.list xs) (.list []) = xs.isEmpty := by cases xs <;> simp [PyData.eqv, PyData.eqvAll]
theorem eqv_nilT {xs : List PyData} : PyData.eqv (.tuple xs) (.tuple []) = xs.isEmpty := by cases xs <;> simp [PyData.eqv, PyData.eqvAll]
theorem ne_nilL {xs : List PyData} {t : Nat} (h : Eqd (.list xs) t) (ht : t ≤ 64) : cmp2 .ne (.list xs) (.list []) = some (!xs.isEmpty) := by
  rw [cne h eqd_nilL ht (by decide) (by nofun), eqv_nilL]
theorem eq_nilL {xs : List PyData} {t : Nat} (h : Eqd (.list xs) t) (ht : t ≤ 64) : cmp2 .eq (.list xs) (.list []) = some xs.isEmpty := by
  rw [ceq h eqd_nilL ht (by decide) (by nofun), eqv_nilL]
theorem ne_nilT {xs : List PyData} {t : Nat} (h : Eqd (.tuple xs) t) (ht : t ≤ 64) : cmp2 .ne (.tuple xs) (.tuple []) = some (!xs.isEmpty) := by
  rw [cne h eqd_nilT ht (by decide) (by nofun), eqv_nilT]
theorem eq_nilT {xs : List PyData} {t : Nat} (h : Eqd (.tuple xs) t) (ht : t ≤ 64) : cmp2 .eq (.tuple xs) (.tuple []) = some xs.isEmpty := by
  rw [ceq h eqd_nilT ht (by decide) (by nofun), eqv_nilT]
end Xp

namespace Xp
open PySem PySem.Spec PyProof.Rows L2
def top (i : Nat) : Stmt := PySem.Challenge.pw_exactpaint_k48_whole_paints_go_on.main.body.getD i (.Pass ⟨0, 0, 0, 0⟩)
def f_sign_of : Df := ⟨1, 1, .cons (.ret (.bin .sub (.u1 .int (.cmp .gt (.vb 0) (.int 0))) (.u1 .int (.cmp .lt (.vb 0) (.int 0))))) (.nil)⟩
def f_lowest : Df := ⟨2, 3, .cons (.asg (.v 2) (.bin .mul (.u2 .gcd (.vb 0) (.vb 1)) (.cal 0 (.cons (.var 1) (.nil))))) (.cons (.ret (.tup (.cons (.bin .fdiv (.vb 0) (.vb 2)) (.cons (.bin .fdiv (.vb 1) (.vb 2)) (.nil))))) (.nil))⟩
def f_fraction : Df := ⟨2, 2, .cons (.ite (.cmp .eq (.vb 1) (.int 0)) (.cons (.never) (.nil)) (.nil)) (.cons (.ret (.cal 1 (.cons (.var 0) (.cons (.var 1) (.nil))))) (.nil))⟩
def f_plus : Df := ⟨2, 2, .cons (.ret (.cal 1 (.cons (.bin .add (.bin .mul (.ix (.vb 0) (.int 0)) (.ix (.vb 1) (.int 1))) (.bin .mul (.ix (.vb 1) (.int 0)) (.ix (.vb 0) (.int 1)))) (.cons (.bin .mul (.ix (.vb 0) (.int 1)) (.ix (.vb 1) (.int 1))) (.nil))))) (.nil)⟩
def f_minus : Df := ⟨2, 2, .cons (.ret (.cal 1 (.cons (.bin .sub (.bin .mul (.ix (.vb 0) (.int 0)) (.ix (.vb 1) (.int 1))) (.bin .mul (.ix (.vb 1) (.int 0)) (.ix (.vb 0) (.int 1)))) (.cons (.bin .mul (.ix (.vb 0) (.int 1)) (.ix (.vb 1) (.int 1))) (.nil))))) (.nil)⟩
def f_times : Df := ⟨2, 2, .cons (.ret (.cal 1 (.cons (.bin .mul (.ix (.vb 0) (.int 0)) (.ix (.vb 1) (.int 0))) (.cons (.bin .mul (.ix (.vb 0) (.int 1)) (.ix (.vb 1) (.int 1))) (.nil))))) (.nil)⟩
def f_over : Df := ⟨2, 2, .cons (.ret (.cal 2 (.cons (.bin .mul (.ix (.vb 0) (.int 0)) (.ix (.vb 1) (.int 1))) (.cons (.bin .mul (.ix (.vb 0) (.int 1)) (.ix (.vb 1) (.int 0))) (.nil))))) (.nil)⟩
def f_compared : Df := ⟨2, 2, .cons (.ret (.cal 0 (.cons (.bin .sub (.bin .mul (.ix (.vb 0) (.int 0)) (.ix (.vb 1) (.int 1))) (.bin .mul (.ix (.vb 1) (.int 0)) (.ix (.vb 0) (.int 1)))) (.nil)))) (.nil)⟩
def f_floor_of : Df := ⟨1, 1, .cons (.ret (.bin .fdiv (.ix (.vb 0) (.int 0)) (.ix (.vb 0) (.int 1)))) (.nil)⟩
def f_rounded : Df := ⟨1, 1, .cons (.ret (.bin .fdiv (.bin .add (.bin .mul (.int 2) (.ix (.vb 0) (.int 0))) (.ix (.vb 0) (.int 1))) (.bin .mul (.int 2) (.ix (.vb 0) (.int 1))))) (.nil)⟩
def f_whole : Df := ⟨1, 1, .cons (.ret (.tup (.cons (.var 0) (.cons (.int 1) (.nil))))) (.nil)⟩
def f_apart : Df := ⟨2, 2, .cons (.ret (.tup (.cons (.cal 4 (.cons (.ix (.vb 0) (.int 0)) (.cons (.cal 10 (.cons (.ix (.vb 1) (.int 0)) (.nil))) (.nil)))) (.cons (.cal 4 (.cons (.ix (.vb 0) (.int 1)) (.cons (.cal 10 (.cons (.ix (.vb 1) (.int 1)) (.nil))) (.nil)))) (.nil))))) (.nil)⟩
def f_along : Df := ⟨2, 7, .cons (.asg (.cons (.v 3) (.cons (.v 4) (.nil))) (.cal 11 (.cons (.var 1) (.cons (.ix (.vb 0) (.int 1)) (.nil))))) (.cons (.par [5, 6] (.cons (.bin .sub (.ix (.ix (.vb 0) (.int 2)) (.int 0)) (.ix (.ix (.vb 0) (.int 1)) (.int 0))) (.cons (.bin .sub (.ix (.ix (.vb 0) (.int 2)) (.int 1)) (.ix (.ix (.vb 0) (.int 1)) (.int 1))) (.nil)))) (.cons (.asg (.v 2) (.cal 3 (.cons (.cal 5 (.cons (.var 3) (.cons (.cal 10 (.cons (.var 5) (.nil))) (.nil)))) (.cons (.cal 5 (.cons (.var 4) (.cons (.cal 10 (.cons (.var 6) (.nil))) (.nil)))) (.nil))))) (.cons (.ret (.cal 6 (.cons (.var 2) (.cons (.cal 10 (.cons (.bin .add (.bin .mul (.vb 5) (.vb 5)) (.bin .mul (.vb 6) (.vb 6))) (.nil))) (.nil))))) (.nil))))⟩
def f_without_sign : Df := ⟨1, 1, .cons (.ret (.tup (.cons (.u1 .abs (.ix (.vb 0) (.int 0))) (.cons (.ix (.vb 0) (.int 1)) (.nil))))) (.nil)⟩
def f_around : Df := ⟨2, 4, .cons (.asg (.cons (.v 2) (.cons (.v 3) (.nil))) (.cal 11 (.cons (.var 1) (.cons (.ix (.vb 0) (.int 1)) (.nil))))) (.cons (.par [2, 3] (.cons (.cal 13 (.cons (.var 2) (.nil))) (.cons (.cal 13 (.cons (.var 3) (.nil))) (.nil)))) (.cons (.ret (.cal 6 (.cons (.ite (.cmp .lt (.cal 7 (.cons (.var 2) (.cons (.var 3) (.nil)))) (.int 0)) (.var 3) (.var 2)) (.cons (.cal 10 (.cons (.ix (.vb 0) (.int 2)) (.nil))) (.nil))))) (.nil)))⟩
def f_way_at : Df := ⟨2, 2, .cons (.ret (.ite (.cmp .eq (.ix (.vb 0) (.int 0)) (.str "slope")) (.cal 12 (.cons (.var 0) (.cons (.var 1) (.nil)))) (.cal 14 (.cons (.var 0) (.cons (.var 1) (.nil)))))) (.nil)⟩
def f_brought : Df := ⟨2, 3, .cons (.ite (.cmp .eq (.vb 1) (.str "again")) (.cons (.ret (.cal 4 (.cons (.var 0) (.cons (.cal 10 (.cons (.cal 8 (.cons (.var 0) (.nil))) (.nil))) (.nil))))) (.nil)) (.nil)) (.cons (.ite (.cmp .eq (.vb 1) (.str "held")) (.cons (.ret (.cal 17 (.cons (.var 0) (.nil)))) (.nil)) (.nil)) (.cons (.asg (.v 2) (.cal 4 (.cons (.var 0) (.cons (.cal 10 (.cons (.bin .mul (.int 2) (.cal 8 (.cons (.cal 6 (.cons (.var 0) (.cons (.cal 10 (.cons (.int 2) (.nil))) (.nil)))) (.nil)))) (.nil))) (.nil))))) (.cons (.ret (.ite (.cmp .le (.cal 7 (.cons (.var 2) (.cons (.glb 0) (.nil)))) (.int 0)) (.vm 2) (.cal 4 (.cons (.cal 10 (.cons (.int 2) (.nil))) (.cons (.var 2) (.nil)))))) (.nil))))⟩
def f_held : Df := ⟨1, 1, .cons (.ite (.cmp .lt (.ix (.vb 0) (.int 0)) (.int 0)) (.cons (.ret (.cal 10 (.cons (.int 0) (.nil)))) (.nil)) (.nil)) (.cons (.ret (.ite (.cmp .gt (.cal 7 (.cons (.var 0) (.cons (.glb 0) (.nil)))) (.int 0)) (.glb 0) (.vm 0))) (.nil))⟩
def f_ink_by : Df := ⟨3, 3, .cons (.ret (.cal 9 (.cons (.cal 3 (.cons (.cal 10 (.cons (.var 0) (.nil))) (.cons (.cal 5 (.cons (.var 2) (.cons (.cal 10 (.cons (.bin .sub (.vb 1) (.vb 0)) (.nil))) (.nil)))) (.nil)))) (.nil)))) (.nil)⟩
def f_tile_at : Df := ⟨2, 4, .cons (.par [2, 3] (.cons (.cal 10 (.cons (.ix (.vb 0) (.int 1)) (.nil))) (.cons (.ix (.vb 0) (.int 2)) (.nil)))) (.cons (.ret (.tup (.cons (.bin .mod (.cal 8 (.cons (.cal 6 (.cons (.ix (.vb 1) (.int 0)) (.cons (.var 2) (.nil)))) (.nil))) (.u1 .len (.ix (.vb 3) (.int 0)))) (.cons (.bin .mod (.cal 8 (.cons (.cal 6 (.cons (.ix (.vb 1) (.int 1)) (.cons (.var 2) (.nil)))) (.nil))) (.u1 .len (.vb 3))) (.nil))))) (.nil))⟩
def f_paint_at : Df := ⟨2, 7, .cons (.ite (.cmp .eq (.ix (.vb 0) (.int 0)) (.str "plain")) (.cons (.ret (.ix (.vb 0) (.int 1))) (.nil)) (.nil)) (.cons (.ite (.cmp .eq (.ix (.vb 0) (.int 0)) (.str "tiles")) (.cons (.asg (.cons (.v 3) (.cons (.v 4) (.nil))) (.cal 19 (.cons (.var 0) (.cons (.var 1) (.nil))))) (.cons (.ret (.ix (.ix (.ix (.vb 0) (.int 2)) (.vb 4)) (.vb 3))) (.nil))) (.nil)) (.cons (.asg (.v 2) (.cal 16 (.cons (.cal 15 (.cons (.var 0) (.cons (.var 1) (.nil)))) (.cons (.ix (.vb 0) (.int 5)) (.nil))))) (.cons (.ret (.u1 .tuple (.lc [5, 6] (.cons (.v 5) (.cons (.v 6) (.nil))) (.zip (.ix (.vb 0) (.int 3)) (.ix (.vb 0) (.int 4))) (.bl true) (.cal 18 (.cons (.var 5) (.cons (.var 6) (.cons (.var 2) (.nil)))))))) (.nil))))⟩
def f_law_cup : Df := ⟨1, 2, .cons (.asg (.v 1) (.u1 .abs (.ix (.bin .add (.scr (.var 0)) (.lst (.cons (.int 0) (.nil)))) (.int 0)))) (.cons (.ret (.lst (.cons (.ite (.cmp .ge (.vb 1) (.bin .pow (.int 10) (.int 18))) (.bin .fdiv (.vb 1) (.int 67)) (.int 0)) (.cons (.bin .add (.bin .mod (.u1 .int (.bin .add (.bin .mul (.vb 1) (.int 277)) (.int 2609))) (.int 2077503167)) (.int 163)) (.nil))))) (.nil))⟩
def f_law_roll : Df := ⟨2, 4, .cons (.ite (.cmp .gt (.ix (.vb 0) (.int 0)) (.int 0)) (.cons (.asg (.v 3) (.bin .mod (.u1 .int (.ix (.vb 0) (.int 0))) (.vb 1))) (.cons (.setv 0 (.int 0) (.bin .fdiv (.ix (.vb 0) (.int 0)) (.vb 1))) (.cons (.ret (.vm 3)) (.nil)))) (.nil)) (.cons (.setv 0 (.int 1) (.bin .mod (.u1 .int (.bin .add (.bin .mul (.ix (.vb 0) (.int 1)) (.int 31051)) (.int 7993))) (.int 2147483543))) (.cons (.asg (.v 2) (.bin .mod (.u1 .int (.bin .mul (.ix (.vb 0) (.int 1)) (.bin .add (.ix (.vb 0) (.int 1)) (.int 229)))) (.int 2147483587))) (.cons (.ret (.bin .mod (.u1 .int (.bin .fdiv (.vb 2) (.int 821))) (.vb 1))) (.nil))))⟩
def f_law_some : Df := ⟨2, 2, .cons (.ret (.ix (.vb 1) (.cal 22 (.cons (.var 0) (.cons (.u1 .len (.vb 1)) (.nil)))))) (.nil)⟩
def f_law_inks : Df := ⟨1, 2, .cons (.ret (.u1 .tuple (.lc [1] (.v 1) (.rng1 (.int 3)) (.bl true) (.cal 23 (.cons (.var 0) (.cons (.lst (.cons (.int 0) (.cons (.int 100) (.cons (.int 50) (.cons (.int 1) (.cons (.int 99) (.cons (.cal 22 (.cons (.var 0) (.cons (.int 101) (.nil)))) (.nil)))))))) (.nil))))))) (.nil)⟩
def f_law_point : Df := ⟨2, 3, .cons (.ret (.u1 .tuple (.lc [2] (.v 2) (.rng1 (.int 2)) (.bl true) (.cal 23 (.cons (.var 0) (.cons (.lst (.cons (.int 0) (.cons (.int 1) (.cons (.u1 .neg (.int 1)) (.cons (.var 1) (.cons (.u1 .neg (.vb 1)) (.cons (.bin .sub (.cal 22 (.cons (.var 0) (.cons (.bin .add (.bin .mul (.int 2) (.vb 1)) (.int 1)) (.nil)))) (.vb 1)) (.cons (.bin .sub (.cal 22 (.cons (.var 0) (.cons (.int 9) (.nil)))) (.int 4)) (.nil))))))))) (.nil))))))) (.nil)⟩
def f_law_row : Df := ⟨2, 3, .cons (.ret (.u1 .tuple (.lc [2] (.v 2) (.rng1 (.vb 1)) (.bl true) (.cal 23 (.cons (.var 0) (.cons (.lst (.cons (.non) (.cons (.cal 24 (.cons (.var 0) (.nil))) (.cons (.cal 24 (.cons (.var 0) (.nil))) (.nil))))) (.nil))))))) (.nil)⟩
def f_law_paint : Df := ⟨2, 9, .cons (.asg (.v 2) (.cal 23 (.cons (.var 0) (.cons (.var 1) (.nil))))) (.cons (.ite (.cmp .eq (.vb 2) (.str "plain")) (.cons (.ret (.tup (.cons (.var 2) (.cons (.cal 24 (.cons (.var 0) (.nil))) (.nil))))) (.nil)) (.nil)) (.cons (.ite (.cmp .eq (.vb 2) (.str "tiles")) (.cons (.asg (.v 4) (.bin .add (.int 1) (.cal 22 (.cons (.var 0) (.cons (.int 4) (.nil)))))) (.cons (.asg (.v 5) (.lc [8] (.v 8) (.rng1 (.bin .add (.int 1) (.cal 22 (.cons (.var 0) (.cons (.int 4) (.nil)))))) (.bl true) (.cal 26 (.cons (.var 0) (.cons (.var 4) (.nil)))))) (.cons (.ret (.tup (.cons (.var 2) (.cons (.cal 23 (.cons (.var 0) (.cons (.lst (.cons (.int 1) (.cons (.int 2) (.cons (.int 3) (.cons (.int 99) (.cons (.bin .add (.int 1) (.cal 22 (.cons (.var 0) (.cons (.int 99) (.nil))))) (.nil))))))) (.nil)))) (.cons (.u1 .tuple (.vb 5)) (.nil)))))) (.nil)))) (.nil)) (.cons (.par [6, 7] (.cons (.cal 25 (.cons (.var 0) (.cons (.int 200) (.nil)))) (.cons (.cal 23 (.cons (.var 0) (.cons (.lst (.cons (.str "held") (.cons (.str "again") (.cons (.str "back") (.nil))))) (.nil)))) (.nil)))) (.cons (.ite (.cmp .eq (.vb 2) (.str "rings")) (.cons (.ret (.tup (.cons (.var 2) (.cons (.var 6) (.cons (.cal 23 (.cons (.var 0) (.cons (.lst (.cons (.int 1) (.cons (.int 2) (.cons (.int 4) (.cons (.int 200) (.cons (.bin .add (.int 1) (.cal 22 (.cons (.var 0) (.cons (.int 200) (.nil))))) (.nil))))))) (.nil)))) (.cons (.cal 24 (.cons (.var 0) (.nil))) (.cons (.cal 24 (.cons (.var 0) (.nil))) (.cons (.var 7) (.nil))))))))) (.nil)) (.nil)) (.cons (.asg (.v 3) (.cal 25 (.cons (.var 0) (.cons (.int 200) (.nil))))) (.cons (.asg (.v 3) (.ite (.cmp .ne (.vb 3) (.vb 6)) (.var 3) (.tup (.cons (.ite (.cmp .gt (.ix (.vb 6) (.int 0)) (.int 0)) (.bin .sub (.ix (.vb 6) (.int 0)) (.int 1)) (.bin .add (.ix (.vb 6) (.int 0)) (.int 1))) (.cons (.ix (.vb 6) (.int 1)) (.nil)))))) (.cons (.ret (.tup (.cons (.var 2) (.cons (.var 6) (.cons (.var 3) (.cons (.cal 24 (.cons (.var 0) (.nil))) (.cons (.cal 24 (.cons (.var 0) (.nil))) (.cons (.var 7) (.nil))))))))) (.nil))))))))⟩
def f_law_lowest : Df := ⟨2, 5, .cons (.par [3, 4] (.cons (.u1 .abs (.vb 0)) (.cons (.var 1) (.nil)))) (.cons (.for_ (.v 2) (.rng1 (.int 400)) (.cons (.ite (.cmp .eq (.vb 4) (.int 0)) (.cons (.brk) (.nil)) (.nil)) (.cons (.par [3, 4] (.cons (.var 4) (.cons (.bin .sub (.vb 3) (.bin .mul (.bin .fdiv (.vb 3) (.vb 4)) (.vb 4))) (.nil)))) (.nil)))) (.cons (.ret (.tup (.cons (.bin .fdiv (.vb 0) (.vb 3)) (.cons (.bin .fdiv (.vb 1) (.vb 3)) (.nil))))) (.nil)))⟩
def f_law_number : Df := ⟨1, 2, .cons (.asg (.v 1) (.cal 23 (.cons (.var 0) (.cons (.lst (.cons (.int 1) (.cons (.int 1) (.cons (.int 2) (.cons (.int 3) (.cons (.int 16) (.cons (.bin .add (.int 1) (.cal 22 (.cons (.var 0) (.cons (.int 100) (.nil))))) (.cons (.bin .add (.int 1) (.cal 22 (.cons (.var 0) (.cons (.bin .pow (.int 10) (.int 6)) (.nil))))) (.nil))))))))) (.nil))))) (.cons (.ret (.cal 28 (.cons (.ite (.cmp .gt (.cal 22 (.cons (.var 0) (.cons (.int 40) (.nil)))) (.int 0)) (.bin .add (.bin .mul (.bin .sub (.cal 22 (.cons (.var 0) (.cons (.int 800) (.nil)))) (.int 400)) (.vb 1)) (.cal 22 (.cons (.var 0) (.cons (.var 1) (.nil))))) (.bin .mul (.int 400) (.vb 1))) (.cons (.var 1) (.nil))))) (.nil))⟩
def f_law_place : Df := ⟨1, 1, .cons (.ret (.tup (.cons (.cal 29 (.cons (.var 0) (.nil))) (.cons (.cal 29 (.cons (.var 0) (.nil))) (.nil))))) (.nil)⟩
def f_law_near : Df := ⟨2, 5, .cons (.ite (.cmp .eq (.ix (.vb 1) (.int 0)) (.str "plain")) (.cons (.ret (.cal 30 (.cons (.var 0) (.nil)))) (.nil)) (.nil)) (.cons (.asg (.v 2) (.ite (.cmp .eq (.ix (.vb 1) (.int 0)) (.str "tiles")) (.tup (.cons (.int 0) (.cons (.int 0) (.nil)))) (.ix (.vb 1) (.int 1)))) (.cons (.asg (.v 3) (.ite (.cmp .eq (.ix (.vb 1) (.int 0)) (.str "tiles")) (.ix (.vb 1) (.int 1)) (.ix (.vb 1) (.int 2)))) (.cons (.ite (.cmp .eq (.ix (.vb 1) (.int 0)) (.str "slope")) (.cons (.asg (.v 3) (.bin .add (.u1 .abs (.bin .sub (.ix (.ix (.vb 1) (.int 2)) (.int 0)) (.ix (.ix (.vb 1) (.int 1)) (.int 0)))) (.u1 .abs (.bin .sub (.ix (.ix (.vb 1) (.int 2)) (.int 1)) (.ix (.ix (.vb 1) (.int 1)) (.int 1)))))) (.nil)) (.nil)) (.cons (.ret (.u1 .tuple (.lc [4] (.v 4) (.rng1 (.int 2)) (.bl true) (.cal 28 (.cons (.bin .add (.bin .add (.bin .mul (.int 2) (.ix (.vb 2) (.vb 4))) (.bin .mul (.vb 3) (.bin .sub (.cal 22 (.cons (.var 0) (.cons (.int 13) (.nil)))) (.int 6)))) (.cal 23 (.cons (.var 0) (.cons (.lst (.cons (.int 0) (.cons (.int 0) (.cons (.int 1) (.cons (.u1 .neg (.int 1)) (.nil)))))) (.nil))))) (.cons (.int 2) (.nil))))))) (.nil)))))⟩
def f_law_moved : Df := ⟨4, 7, .cons (.asg (.v 4) (.lst (.nil))) (.cons (.for_ (.cons (.v 5) (.cons (.v 6) (.nil))) (.seq (.lst (.cons (.tup (.cons (.ix (.vb 0) (.int 0)) (.cons (.var 2) (.nil)))) (.cons (.tup (.cons (.ix (.vb 0) (.int 1)) (.cons (.var 3) (.nil)))) (.nil))))) (.cons (.app 4 (.cal 28 (.cons (.bin .add (.bin .mul (.ix (.vb 5) (.int 0)) (.ix (.vb 1) (.int 1))) (.bin .mul (.bin .mul (.vb 6) (.ix (.vb 1) (.int 0))) (.ix (.vb 5) (.int 1)))) (.cons (.bin .mul (.ix (.vb 5) (.int 1)) (.ix (.vb 1) (.int 1))) (.nil))))) (.nil))) (.cons (.ret (.u1 .tuple (.vb 4))) (.nil)))⟩
def f_law_on_rings : Df := ⟨3, 12, .cons (.asg (.v 3) (.bin .mul (.ix (.ix (.vb 2) (.int 0)) (.int 1)) (.ix (.ix (.vb 2) (.int 1)) (.int 1)))) (.cons (.asg (.v 4) (.bin .sub (.bin .mul (.ix (.ix (.vb 2) (.int 0)) (.int 0)) (.ix (.ix (.vb 2) (.int 1)) (.int 1))) (.bin .mul (.ix (.ix (.vb 1) (.int 1)) (.int 0)) (.vb 3)))) (.cons (.asg (.v 5) (.bin .sub (.bin .mul (.ix (.ix (.vb 2) (.int 1)) (.int 0)) (.ix (.ix (.vb 2) (.int 0)) (.int 1))) (.bin .mul (.ix (.ix (.vb 1) (.int 1)) (.int 1)) (.vb 3)))) (.cons (.par [7, 8] (.cons (.u2 .max (.u1 .abs (.vb 4)) (.u1 .abs (.vb 5))) (.cons (.bin .mul (.ix (.vb 1) (.int 2)) (.vb 3)) (.nil)))) (.cons (.ite (.cmp .eq (.ix (.vb 1) (.int 5)) (.str "again")) (.cons (.asg (.v 7) (.bin .add (.vb 7) (.bin .mul (.vb 8) (.cal 22 (.cons (.var 0) (.cons (.int 3) (.nil))))))) (.nil)) (.nil)) (.cons (.ite (.cmp .eq (.ix (.vb 1) (.int 5)) (.str "back")) (.cons (.asg (.v 7) (.ite (.and (.cmp .le (.vb 7) (.bin .mul (.int 2) (.vb 8))) (.cmp .eq (.cal 22 (.cons (.var 0) (.cons (.int 2) (.nil)))) (.int 0))) (.bin .sub (.bin .mul (.int 2) (.vb 8)) (.vb 7)) (.var 7))) (.cons (.asg (.v 7) (.bin .add (.vb 7) (.bin .mul (.bin .mul (.int 2) (.vb 8)) (.cal 22 (.cons (.var 0) (.cons (.int 2) (.nil))))))) (.nil))) (.nil)) (.cons (.ite (.and (.cmp .eq (.ix (.vb 1) (.int 5)) (.str "held")) (.cmp .ge (.vb 7) (.vb 8))) (.cons (.asg (.v 7) (.bin .add (.vb 7) (.bin .mul (.vb 8) (.cal 22 (.cons (.var 0) (.cons (.int 3) (.nil))))))) (.nil)) (.nil)) (.cons (.asg (.v 6) (.bin .add (.int 1) (.cal 22 (.cons (.var 0) (.cons (.int 6) (.nil)))))) (.cons (.par [9, 3, 7] (.cons (.bin .mul (.vb 7) (.bin .sub (.bin .mul (.int 2) (.cal 22 (.cons (.var 0) (.cons (.bin .add (.vb 6) (.int 1)) (.nil))))) (.vb 6))) (.cons (.bin .mul (.vb 3) (.vb 6)) (.cons (.bin .mul (.vb 7) (.vb 6)) (.nil))))) (.cons (.asg (.cons (.v 10) (.cons (.v 11) (.nil))) (.cal 23 (.cons (.var 0) (.cons (.lst (.cons (.tup (.cons (.var 7) (.cons (.var 9) (.nil)))) (.cons (.tup (.cons (.u1 .neg (.vb 7)) (.cons (.var 9) (.nil)))) (.cons (.tup (.cons (.var 9) (.cons (.var 7) (.nil)))) (.cons (.tup (.cons (.var 9) (.cons (.u1 .neg (.vb 7)) (.nil)))) (.nil)))))) (.nil))))) (.cons (.ret (.tup (.cons (.cal 28 (.cons (.bin .add (.bin .mul (.ix (.ix (.vb 1) (.int 1)) (.int 0)) (.vb 3)) (.vb 10)) (.cons (.var 3) (.nil)))) (.cons (.cal 28 (.cons (.bin .add (.bin .mul (.ix (.ix (.vb 1) (.int 1)) (.int 1)) (.vb 3)) (.vb 11)) (.cons (.var 3) (.nil)))) (.nil))))) (.nil)))))))))))⟩
def f_law_share : Df := ⟨2, 7, .cons (.par [5, 6] (.cons (.bin .sub (.ix (.ix (.vb 0) (.int 2)) (.int 0)) (.ix (.ix (.vb 0) (.int 1)) (.int 0))) (.cons (.bin .sub (.ix (.ix (.vb 0) (.int 2)) (.int 1)) (.ix (.ix (.vb 0) (.int 1)) (.int 1))) (.nil)))) (.cons (.asg (.v 2) (.bin .mul (.ix (.ix (.vb 1) (.int 0)) (.int 1)) (.ix (.ix (.vb 1) (.int 1)) (.int 1)))) (.cons (.asg (.v 3) (.bin .sub (.bin .mul (.ix (.ix (.vb 1) (.int 0)) (.int 0)) (.ix (.ix (.vb 1) (.int 1)) (.int 1))) (.bin .mul (.ix (.ix (.vb 0) (.int 1)) (.int 0)) (.vb 2)))) (.cons (.asg (.v 4) (.bin .sub (.bin .mul (.ix (.ix (.vb 1) (.int 1)) (.int 0)) (.ix (.ix (.vb 1) (.int 0)) (.int 1))) (.bin .mul (.ix (.ix (.vb 0) (.int 1)) (.int 1)) (.vb 2)))) (.cons (.ret (.cal 28 (.cons (.bin .add (.bin .mul (.vb 3) (.vb 5)) (.bin .mul (.vb 4) (.vb 6))) (.cons (.bin .mul (.vb 2) (.bin .add (.bin .mul (.vb 5) (.vb 5)) (.bin .mul (.vb 6) (.vb 6)))) (.nil))))) (.nil)))))⟩
def f_law_like : Df := ⟨3, 8, .cons (.ite (.cmp .eq (.ix (.vb 1) (.int 0)) (.str "plain")) (.cons (.ret (.cal 30 (.cons (.var 0) (.nil)))) (.nil)) (.nil)) (.cons (.ite (.cmp .eq (.ix (.vb 1) (.int 0)) (.str "tiles")) (.cons (.par [4, 5] (.cons (.bin .mul (.bin .mul (.ix (.vb 1) (.int 1)) (.u1 .len (.ix (.ix (.vb 1) (.int 2)) (.int 0)))) (.bin .sub (.cal 22 (.cons (.var 0) (.cons (.int 7) (.nil)))) (.int 3))) (.cons (.bin .mul (.bin .mul (.ix (.vb 1) (.int 1)) (.u1 .len (.ix (.vb 1) (.int 2)))) (.bin .sub (.cal 22 (.cons (.var 0) (.cons (.int 7) (.nil)))) (.int 3))) (.nil)))) (.cons (.ret (.cal 32 (.cons (.var 2) (.cons (.tup (.cons (.int 1) (.cons (.int 1) (.nil)))) (.cons (.var 4) (.cons (.var 5) (.nil))))))) (.nil))) (.nil)) (.cons (.ite (.cmp .eq (.ix (.vb 1) (.int 0)) (.str "rings")) (.cons (.ret (.cal 33 (.cons (.var 0) (.cons (.var 1) (.cons (.var 2) (.nil)))))) (.nil)) (.nil)) (.cons (.par [4, 5] (.cons (.bin .sub (.ix (.ix (.vb 1) (.int 2)) (.int 0)) (.ix (.ix (.vb 1) (.int 1)) (.int 0))) (.cons (.bin .sub (.ix (.ix (.vb 1) (.int 2)) (.int 1)) (.ix (.ix (.vb 1) (.int 1)) (.int 1))) (.nil)))) (.cons (.ite (.and (.cmp .eq (.ix (.vb 1) (.int 5)) (.str "back")) (.cmp .eq (.cal 22 (.cons (.var 0) (.cons (.int 2) (.nil)))) (.int 0))) (.cons (.par [6, 7] (.cons (.cal 34 (.cons (.var 1) (.cons (.var 2) (.nil)))) (.cons (.cal 23 (.cons (.var 0) (.cons (.lst (.cons (.u1 .neg (.int 1)) (.cons (.int 0) (.cons (.int 1) (.cons (.int 2) (.nil)))))) (.nil)))) (.nil)))) (.cons (.ret (.cal 32 (.cons (.var 2) (.cons (.cal 28 (.cons (.bin .mul (.int 2) (.bin .sub (.bin .mul (.vb 7) (.ix (.vb 6) (.int 1))) (.ix (.vb 6) (.int 0)))) (.cons (.ix (.vb 6) (.int 1)) (.nil)))) (.cons (.var 4) (.cons (.var 5) (.nil))))))) (.nil))) (.nil)) (.cons (.asg (.v 3) (.dsel ["held", "again", "back"] (.cons (.int 0) (.cons (.bin .sub (.cal 22 (.cons (.var 0) (.cons (.int 7) (.nil)))) (.int 3)) (.cons (.bin .mul (.int 2) (.bin .sub (.cal 22 (.cons (.var 0) (.cons (.int 5) (.nil)))) (.int 2))) (.nil)))) (.ix (.vb 1) (.int 5)))) (.cons (.ret (.cal 32 (.cons (.cal 32 (.cons (.var 2) (.cons (.cal 29 (.cons (.var 0) (.nil))) (.cons (.u1 .neg (.vb 5)) (.cons (.var 4) (.nil)))))) (.cons (.tup (.cons (.var 3) (.cons (.int 1) (.nil)))) (.cons (.var 4) (.cons (.var 5) (.nil))))))) (.nil)))))))⟩
def f_law_ends_well : Df := ⟨2, 10, .cons (.asg (.v 2) (.bin .add (.sl (.vb 1) .nopart (.int 5)) (.tup (.cons (.str "held") (.nil))))) (.cons (.asg (.v 3) (.bin .add (.int 1) (.cal 22 (.cons (.var 0) (.cons (.int 4) (.nil)))))) (.cons (.ite (.cmp .eq (.ix (.vb 1) (.int 0)) (.str "rings")) (.cons (.par [5, 6] (.cons (.ix (.vb 1) (.int 1)) (.cons (.tup (.cons (.ix (.ix (.vb 1) (.int 1)) (.int 0)) (.cons (.bin .sub (.ix (.ix (.vb 1) (.int 1)) (.int 1)) (.bin .mul (.vb 3) (.ix (.vb 1) (.int 2)))) (.nil)))) (.nil)))) (.nil)) (.cons (.par [7, 8] (.cons (.bin .sub (.ix (.ix (.vb 1) (.int 2)) (.int 0)) (.ix (.ix (.vb 1) (.int 1)) (.int 0))) (.cons (.bin .sub (.ix (.ix (.vb 1) (.int 2)) (.int 1)) (.ix (.ix (.vb 1) (.int 1)) (.int 1))) (.nil)))) (.cons (.par [5, 6] (.cons (.tup (.cons (.bin .sub (.ix (.ix (.vb 1) (.int 1)) (.int 0)) (.bin .mul (.bin .sub (.vb 3) (.int 1)) (.vb 7))) (.cons (.bin .sub (.ix (.ix (.vb 1) (.int 1)) (.int 1)) (.bin .mul (.bin .sub (.vb 3) (.int 1)) (.vb 8))) (.nil)))) (.cons (.tup (.cons (.bin .add (.ix (.ix (.vb 1) (.int 1)) (.int 0)) (.bin .mul (.vb 3) (.vb 7))) (.cons (.bin .add (.ix (.ix (.vb 1) (.int 1)) (.int 1)) (.bin .mul (.vb 3) (.vb 8))) (.nil)))) (.nil)))) (.nil)))) (.cons (.asg (.v 4) (.lc [9] (.v 9) (.seq (.lst (.cons (.var 5) (.cons (.var 6) (.nil))))) (.bl true) (.tup (.cons (.tup (.cons (.ix (.vb 9) (.int 0)) (.cons (.int 1) (.nil)))) (.cons (.tup (.cons (.ix (.vb 9) (.int 1)) (.cons (.int 1) (.nil)))) (.nil)))))) (.cons (.ret (.and (.cmp .eq (.cal 20 (.cons (.var 2) (.cons (.ix (.vb 4) (.int 0)) (.nil)))) (.ix (.vb 1) (.int 3))) (.cmp .eq (.cal 20 (.cons (.var 2) (.cons (.ix (.vb 4) (.int 1)) (.nil)))) (.ix (.vb 1) (.int 4))))) (.nil)))))⟩
def f_law_tiles_well : Df := ⟨1, 5, .cons (.asg (.v 1) (.ix (.vb 0) (.int 1))) (.cons (.for_ (.v 2) (.rng1 (.u1 .len (.ix (.vb 0) (.int 2)))) (.cons (.for_ (.v 3) (.rng1 (.u1 .len (.ix (.ix (.vb 0) (.int 2)) (.int 0)))) (.cons (.asg (.v 4) (.tup (.cons (.cal 28 (.cons (.bin .mul (.bin .add (.bin .mul (.int 2) (.vb 3)) (.int 1)) (.vb 1)) (.cons (.int 2) (.nil)))) (.cons (.cal 28 (.cons (.bin .mul (.bin .add (.bin .mul (.int 2) (.vb 2)) (.int 1)) (.vb 1)) (.cons (.int 2) (.nil)))) (.nil))))) (.cons (.ite (.cmp .ne (.cal 20 (.cons (.var 0) (.cons (.var 4) (.nil)))) (.ix (.ix (.ix (.vb 0) (.int 2)) (.vb 2)) (.vb 3))) (.cons (.ret (.bl false)) (.nil)) (.nil)) (.nil)))) (.nil))) (.cons (.ret (.bl true)) (.nil)))⟩
def f_law : Df := ⟨1, 12, .cons (.asgC 1 (.cal 21 (.cons (.var 0) (.nil)))) (.cons (.for_ (.v 2) (.rng1 (.int 8)) (.cons (.asg (.v 3) (.cal 27 (.cons (.var 1) (.cons (.lst (.cons (.str "plain") (.cons (.str "slope") (.cons (.str "slope") (.cons (.str "slope") (.cons (.str "rings") (.cons (.str "rings") (.cons (.str "tiles") (.nil))))))))) (.nil))))) (.cons (.asg (.v 4) (.cal 23 (.cons (.var 1) (.cons (.lst (.cons (.cal 30 (.cons (.var 1) (.nil))) (.cons (.cal 31 (.cons (.var 1) (.cons (.var 3) (.nil)))) (.nil)))) (.nil))))) (.cons (.asg (.v 5) (.u1 .repr (.cal 20 (.cons (.var 3) (.cons (.var 4) (.nil)))))) (.cons (.ite (.and (.cmp .eq (.ix (.vb 3) (.int 0)) (.str "tiles")) (.not (.cal 37 (.cons (.var 3) (.nil))))) (.cons (.ret (.bl false)) (.nil)) (.nil)) (.cons (.ite (.cmp .ne (.u1 .repr (.cal 20 (.cons (.var 3) (.cons (.cal 35 (.cons (.var 1) (.cons (.var 3) (.cons (.var 4) (.nil))))) (.nil))))) (.vb 5)) (.cons (.ret (.bl false)) (.nil)) (.nil)) (.cons (.ite (.cmp .isin (.ix (.vb 3) (.int 0)) (.tup (.cons (.str "slope") (.cons (.str "rings") (.nil))))) (.cons (.ite (.not (.cal 36 (.cons (.var 1) (.cons (.var 3) (.nil))))) (.cons (.ret (.bl false)) (.nil)) (.nil)) (.cons (.par [9, 10] (.cons (.bin .sub (.cal 22 (.cons (.var 1) (.cons (.int 5) (.nil)))) (.int 2)) (.cons (.bin .sub (.cal 22 (.cons (.var 1) (.cons (.int 5) (.nil)))) (.int 2)) (.nil)))) (.cons (.asg (.v 6) (.lst (.cons (.tup (.cons (.bin .add (.ix (.ix (.vb 3) (.int 1)) (.int 0)) (.vb 9)) (.cons (.bin .add (.ix (.ix (.vb 3) (.int 1)) (.int 1)) (.vb 10)) (.nil)))) (.nil)))) (.cons (.app 6 (.ite (.cmp .eq (.ix (.vb 3) (.int 0)) (.str "slope")) (.tup (.cons (.bin .add (.ix (.ix (.vb 3) (.int 2)) (.int 0)) (.vb 9)) (.cons (.bin .add (.ix (.ix (.vb 3) (.int 2)) (.int 1)) (.vb 10)) (.nil)))) (.ix (.vb 3) (.int 2)))) (.cons (.asg (.v 7) (.bin .add (.tup (.cons (.ix (.vb 3) (.int 0)) (.cons (.ix (.vb 6) (.int 0)) (.cons (.ix (.vb 6) (.int 1)) (.nil))))) (.sl (.vb 3) (.int 3) .nopart))) (.cons (.asg (.v 8) (.ite (.cmp .eq (.ix (.vb 3) (.int 0)) (.str "slope")) (.var 6) (.sl (.vb 6) .nopart (.int 1)))) (.cons (.ite (.cmp .eq (.lc [11] (.v 11) (.seq (.var 8)) (.cmp .gt (.u2 .max (.u1 .abs (.ix (.vb 11) (.int 0))) (.u1 .abs (.ix (.vb 11) (.int 1)))) (.int 200)) (.var 11)) (.lst (.nil))) (.cons (.ite (.cmp .ne (.u1 .repr (.cal 20 (.cons (.var 7) (.cons (.cal 32 (.cons (.var 4) (.cons (.tup (.cons (.int 1) (.cons (.int 1) (.nil)))) (.cons (.var 9) (.cons (.var 10) (.nil)))))) (.nil))))) (.vb 5)) (.cons (.ret (.bl false)) (.nil)) (.nil)) (.nil)) (.nil)) (.nil)))))))) (.nil)) (.nil)))))))) (.cons (.ret (.bl true)) (.nil)))⟩
def Ds : List Dfn := [⟨"sign_of", "sign_of", ["number"], ["number"], dArgs (top 5), dBody (top 5), dScope (top 5), f_sign_of⟩,
  ⟨"lowest", "lowest", ["top", "bottom"], ["top", "bottom", "common"], dArgs (top 8), dBody (top 8), dScope (top 8), f_lowest⟩,
  ⟨"fraction", "fraction", ["top", "bottom"], ["top", "bottom"], dArgs (top 9), dBody (top 9), dScope (top 9), f_fraction⟩,
  ⟨"plus", "plus", ["one", "other"], ["one", "other"], dArgs (top 10), dBody (top 10), dScope (top 10), f_plus⟩,
  ⟨"minus", "minus", ["one", "other"], ["one", "other"], dArgs (top 11), dBody (top 11), dScope (top 11), f_minus⟩,
  ⟨"times", "times", ["one", "other"], ["one", "other"], dArgs (top 12), dBody (top 12), dScope (top 12), f_times⟩,
  ⟨"over", "over", ["one", "other"], ["one", "other"], dArgs (top 13), dBody (top 13), dScope (top 13), f_over⟩,
  ⟨"compared", "compared", ["one", "other"], ["one", "other"], dArgs (top 14), dBody (top 14), dScope (top 14), f_compared⟩,
  ⟨"floor_of", "floor_of", ["number"], ["number"], dArgs (top 15), dBody (top 15), dScope (top 15), f_floor_of⟩,
  ⟨"rounded", "rounded", ["number"], ["number"], dArgs (top 16), dBody (top 16), dScope (top 16), f_rounded⟩,
  ⟨"whole", "whole", ["number"], ["number"], dArgs (top 18), dBody (top 18), dScope (top 18), f_whole⟩,
  ⟨"apart", "apart", ["place", "point"], ["place", "point"], dArgs (top 19), dBody (top 19), dScope (top 19), f_apart⟩,
  ⟨"along", "along", ["paint", "place"], ["paint", "place", "sum_of", "right", "down", "over_x", "over_y"], dArgs (top 20), dBody (top 20), dScope (top 20), f_along⟩,
  ⟨"without_sign", "without_sign", ["number"], ["number"], dArgs (top 21), dBody (top 21), dScope (top 21), f_without_sign⟩,
  ⟨"around", "around", ["paint", "place"], ["paint", "place", "right", "down"], dArgs (top 22), dBody (top 22), dScope (top 22), f_around⟩,
  ⟨"way_at", "way_at", ["paint", "place"], ["paint", "place"], dArgs (top 23), dBody (top 23), dScope (top 23), f_way_at⟩,
  ⟨"brought", "brought", ["way", "edge"], ["way", "edge", "rest"], dArgs (top 24), dBody (top 24), dScope (top 24), f_brought⟩,
  ⟨"held", "held", ["way"], ["way"], dArgs (top 25), dBody (top 25), dScope (top 25), f_held⟩,
  ⟨"ink_by", "ink_by", ["one", "other", "way"], ["one", "other", "way"], dArgs (top 26), dBody (top 26), dScope (top 26), f_ink_by⟩,
  ⟨"tile_at", "tile_at", ["paint", "place"], ["paint", "place", "size", "rows"], dArgs (top 27), dBody (top 27), dScope (top 27), f_tile_at⟩,
  ⟨"paint_at", "paint_at", ["paint", "place"], ["paint", "place", "way", "column", "row", "one", "other"], dArgs (top 28), dBody (top 28), dScope (top 28), f_paint_at⟩,
  ⟨"_law_cup", "_law_cup", ["script"], ["script", "cell"], dArgs (top 30), dBody (top 30), dScope (top 30), f_law_cup⟩,
  ⟨"_law_roll", "_law_roll", ["cup", "many"], ["cup", "many", "deep", "found"], dArgs (top 31), dBody (top 31), dScope (top 31), f_law_roll⟩,
  ⟨"_law_some", "_law_some", ["cup", "things"], ["cup", "things"], dArgs (top 32), dBody (top 32), dScope (top 32), f_law_some⟩,
  ⟨"_law_inks", "_law_inks", ["cup"], ["cup", "ink"], dArgs (top 33), dBody (top 33), dScope (top 33), f_law_inks⟩,
  ⟨"_law_point", "_law_point", ["cup", "most"], ["cup", "most", "axis"], dArgs (top 34), dBody (top 34), dScope (top 34), f_law_point⟩,
  ⟨"_law_row", "_law_row", ["cup", "many"], ["cup", "many", "column"], dArgs (top 35), dBody (top 35), dScope (top 35), f_law_row⟩,
  ⟨"_law_paint", "_law_paint", ["cup", "sorts"], ["cup", "sorts", "sort", "q", "many", "rows", "p", "edge", "row"], dArgs (top 36), dBody (top 36), dScope (top 36), f_law_paint⟩,
  ⟨"_law_lowest", "_law_lowest", ["top", "bottom"], ["top", "bottom", "turn", "one", "other"], dArgs (top 37), dBody (top 37), dScope (top 37), f_law_lowest⟩,
  ⟨"_law_number", "_law_number", ["cup"], ["cup", "bottom"], dArgs (top 38), dBody (top 38), dScope (top 38), f_law_number⟩,
  ⟨"_law_place", "_law_place", ["cup"], ["cup"], dArgs (top 39), dBody (top 39), dScope (top 39), f_law_place⟩,
  ⟨"_law_near", "_law_near", ["cup", "paint"], ["cup", "paint", "by", "step", "axis"], dArgs (top 40), dBody (top 40), dScope (top 40), f_law_near⟩,
  ⟨"_law_moved", "_law_moved", ["place", "times_v", "x", "y"], ["place", "times_v", "x", "y", "found", "number", "by"], dArgs (top 41), dBody (top 41), dScope (top 41), f_law_moved⟩,
  ⟨"_law_on_rings", "_law_on_rings", ["cup", "paint", "place"], ["cup", "paint", "place", "bottom", "right", "down", "many", "far", "size", "along_v", "x", "y"], dArgs (top 42), dBody (top 42), dScope (top 42), f_law_on_rings⟩,
  ⟨"_law_share", "_law_share", ["paint", "place"], ["paint", "place", "bottom", "right", "down", "x", "y"], dArgs (top 43), dBody (top 43), dScope (top 43), f_law_share⟩,
  ⟨"_law_like", "_law_like", ["cup", "paint", "place"], ["cup", "paint", "place", "many", "x", "y", "share", "turn"], dArgs (top 44), dBody (top 44), dScope (top 44), f_law_like⟩,
  ⟨"_law_ends_well", "_law_ends_well", ["cup", "paint"], ["cup", "paint", "held_v", "far", "places", "first", "last", "x", "y", "point"], dArgs (top 45), dBody (top 45), dScope (top 45), f_law_ends_well⟩,
  ⟨"_law_tiles_well", "_law_tiles_well", ["paint"], ["paint", "size", "row", "column", "place"], dArgs (top 46), dBody (top 46), dScope (top 46), f_law_tiles_well⟩,
  ⟨"law", "law", ["script"], ["script", "cup", "turn", "paint", "place", "shown", "points", "moved", "rows", "x", "y", "point"], dArgs (top 47), dBody (top 47), dScope (top 47), f_law⟩]
def Lks : Lk := ⟨((["sign_of", "lowest", "fraction", "plus", "minus", "times", "over", "compared", "floor_of", "rounded", "whole", "apart", "along", "without_sign", "around", "way_at", "brought", "held", "ink_by", "tile_at"] : List PySem.Str) ++ (["paint_at", "_law_cup", "_law_roll", "_law_some", "_law_inks", "_law_point", "_law_row", "_law_paint", "_law_lowest", "_law_number", "_law_place", "_law_near", "_law_moved", "_law_on_rings", "_law_share", "_law_like", "_law_ends_well", "_law_tiles_well", "law"] : List PySem.Str)), ["ONE"], true⟩
def Gs : List PyData := [.tuple [.int (1), .int (1)]]
def dLaw : Dfn := ⟨"law", "law", ["script"], ["script", "cup", "turn", "paint", "place", "shown", "points", "moved", "rows", "x", "y", "point"], dArgs (top 47), dBody (top 47), dScope (top 47), f_law⟩
def wfL : Nat := 1000
end Xp

namespace Xp
open PySem PySem.Spec PyProof.Rows L2
theorem oks : Ds.all (fun d => d.ok Lks) = true := by decide +kernel
theorem bsA : ∀ d ∈ Ds, argsB d := by
  unfold Ds
  refine List.forall_mem_cons.mpr ⟨fun _ _ _ _ _ _ us hl => match us, hl with | [_], _ => rfl, ?_⟩
  refine List.forall_mem_cons.mpr ⟨fun _ _ _ _ _ _ us hl => match us, hl with | [_, _], _ => rfl, ?_⟩
  refine List.forall_mem_cons.mpr ⟨fun _ _ _ _ _ _ us hl => match us, hl with | [_, _], _ => rfl, ?_⟩
  refine List.forall_mem_cons.mpr ⟨fun _ _ _ _ _ _ us hl => match us, hl with | [_, _], _ => rfl, ?_⟩
  refine List.forall_mem_cons.mpr ⟨fun _ _ _ _ _ _ us hl => match us, hl with | [_, _], _ => rfl, ?_⟩
  refine List.forall_mem_cons.mpr ⟨fun _ _ _ _ _ _ us hl => match us, hl with | [_, _], _ => rfl, ?_⟩
  refine List.forall_mem_cons.mpr ⟨fun _ _ _ _ _ _ us hl => match us, hl with | [_, _], _ => rfl, ?_⟩
  refine List.forall_mem_cons.mpr ⟨fun _ _ _ _ _ _ us hl => match us, hl with | [_, _], _ => rfl, ?_⟩
  refine List.forall_mem_cons.mpr ⟨fun _ _ _ _ _ _ us hl => match us, hl with | [_], _ => rfl, ?_⟩
  refine List.forall_mem_cons.mpr ⟨fun _ _ _ _ _ _ us hl => match us, hl with | [_], _ => rfl, ?_⟩
  refine List.forall_mem_cons.mpr ⟨fun _ _ _ _ _ _ us hl => match us, hl with | [_], _ => rfl, ?_⟩
  refine List.forall_mem_cons.mpr ⟨fun _ _ _ _ _ _ us hl => match us, hl with | [_, _], _ => rfl, ?_⟩
  refine List.forall_mem_cons.mpr ⟨fun _ _ _ _ _ _ us hl => match us, hl with | [_, _], _ => rfl, ?_⟩
  refine List.forall_mem_cons.mpr ⟨fun _ _ _ _ _ _ us hl => match us, hl with | [_], _ => rfl, ?_⟩
  refine List.forall_mem_cons.mpr ⟨fun _ _ _ _ _ _ us hl => match us, hl with | [_, _], _ => rfl, ?_⟩
  refine List.forall_mem_cons.mpr ⟨fun _ _ _ _ _ _ us hl => match us, hl with | [_, _], _ => rfl, ?_⟩
  refine List.forall_mem_cons.mpr ⟨fun _ _ _ _ _ _ us hl => match us, hl with | [_, _], _ => rfl, ?_⟩
  refine List.forall_mem_cons.mpr ⟨fun _ _ _ _ _ _ us hl => match us, hl with | [_], _ => rfl, ?_⟩
  refine List.forall_mem_cons.mpr ⟨fun _ _ _ _ _ _ us hl => match us, hl with | [_, _, _], _ => rfl, ?_⟩
  refine List.forall_mem_cons.mpr ⟨fun _ _ _ _ _ _ us hl => match us, hl with | [_, _], _ => rfl, ?_⟩
  refine List.forall_mem_cons.mpr ⟨fun _ _ _ _ _ _ us hl => match us, hl with | [_, _], _ => rfl, ?_⟩
  refine List.forall_mem_cons.mpr ⟨fun _ _ _ _ _ _ us hl => match us, hl with | [_], _ => rfl, ?_⟩
  refine List.forall_mem_cons.mpr ⟨fun _ _ _ _ _ _ us hl => match us, hl with | [_, _], _ => rfl, ?_⟩
  refine List.forall_mem_cons.mpr ⟨fun _ _ _ _ _ _ us hl => match us, hl with | [_, _], _ => rfl, ?_⟩
  refine List.forall_mem_cons.mpr ⟨fun _ _ _ _ _ _ us hl => match us, hl with | [_], _ => rfl, ?_⟩
  refine List.forall_mem_cons.mpr ⟨fun _ _ _ _ _ _ us hl => match us, hl with | [_, _], _ => rfl, ?_⟩
  refine List.forall_mem_cons.mpr ⟨fun _ _ _ _ _ _ us hl => match us, hl with | [_, _], _ => rfl, ?_⟩
  refine List.forall_mem_cons.mpr ⟨fun _ _ _ _ _ _ us hl => match us, hl with | [_, _], _ => rfl, ?_⟩
  refine List.forall_mem_cons.mpr ⟨fun _ _ _ _ _ _ us hl => match us, hl with | [_, _], _ => rfl, ?_⟩
  refine List.forall_mem_cons.mpr ⟨fun _ _ _ _ _ _ us hl => match us, hl with | [_], _ => rfl, ?_⟩
  refine List.forall_mem_cons.mpr ⟨fun _ _ _ _ _ _ us hl => match us, hl with | [_], _ => rfl, ?_⟩
  refine List.forall_mem_cons.mpr ⟨fun _ _ _ _ _ _ us hl => match us, hl with | [_, _], _ => rfl, ?_⟩
  refine List.forall_mem_cons.mpr ⟨fun _ _ _ _ _ _ us hl => match us, hl with | [_, _, _, _], _ => rfl, ?_⟩
  refine List.forall_mem_cons.mpr ⟨fun _ _ _ _ _ _ us hl => match us, hl with | [_, _, _], _ => rfl, ?_⟩
  refine List.forall_mem_cons.mpr ⟨fun _ _ _ _ _ _ us hl => match us, hl with | [_, _], _ => rfl, ?_⟩
  refine List.forall_mem_cons.mpr ⟨fun _ _ _ _ _ _ us hl => match us, hl with | [_, _, _], _ => rfl, ?_⟩
  refine List.forall_mem_cons.mpr ⟨fun _ _ _ _ _ _ us hl => match us, hl with | [_, _], _ => rfl, ?_⟩
  refine List.forall_mem_cons.mpr ⟨fun _ _ _ _ _ _ us hl => match us, hl with | [_], _ => rfl, ?_⟩
  refine List.forall_mem_cons.mpr ⟨fun _ _ _ _ _ _ us hl => match us, hl with | [_], _ => rfl, ?_⟩
  exact fun _ h => by cases h
def loose0 : List PySem.Str := ["PaintError", "InvalidNumber", "sign_of", "ONE", "lowest", "fraction", "plus", "minus", "times", "over", "compared", "floor_of", "rounded", "whole", "apart", "along", "without_sign", "around", "way_at", "brought"]
def loose1 : List PySem.Str := ["held", "ink_by", "tile_at", "paint_at", "_law_cup", "_law_roll", "_law_some", "_law_inks", "_law_point", "_law_row", "_law_paint", "_law_lowest", "_law_number", "_law_place", "_law_near", "_law_moved", "_law_on_rings", "_law_share", "_law_like", "_law_ends_well"]
def loose2 : List PySem.Str := ["_law_tiles_well"]
abbrev Rw : PySem.W.OpenRow := PySem.W.OpenLaw.row PySem.Challenge.rw_exactpaint_k48_whole_paints_go_on
abbrev hk : PySem.W.Hook := hookX 4 Lks Gs Ds
def ob (s : PySem.W.SharedT) : Bool × He.AlD := obX 4 Lks Gs Ds (HandSHeadRun.getT s)
theorem ob_eq (s : PySem.W.SharedT) : ob s = hk.obs s.abs := obX_eq (HandSHeadRun.getT_eq s)
theorem runs_top (w : World) : HandSHeadRun.RunEqI Rw (PySem.W.view Rw.prog [0, 47]) hk ob 20000 (loose0 ++ loose1 ++ loose2) w := by
  unfold HandSHeadRun.RunEqI
  kernel_rfl
end Xp

open Xp in
local macro_rules | `(tactic| and_intros) => `(tactic| ((try (conv => whnf)); repeat (first | ((with_reducible apply lc_n); (conv => whnf)) | ((with_reducible apply lp_n); (conv => whnf)) | ((with_reducible apply Sd.mk); (first | exact mulOk_r rfl | exact mulOk_l rfl | exact divOk_l rfl | exact rfl | decide); (conv => whnf)) | ((with_reducible apply Sd.mk); rotate_left; (conv => whnf)) | ((with_reducible apply str_r); (conv => whnf)) | ((with_reducible apply str_t); exact rfl; (conv => whnf)) | ((with_reducible apply str_f); decide +kernel; (conv => whnf)) | ((with_reducible apply str_t); decide +kernel; (conv => whnf)) | ((with_reducible apply tol_r); exact rfl; (conv => whnf)) | ((with_reducible apply tol_b); exact rfl; (conv => whnf)) | ((with_reducible apply k_t); decide +kernel; (conv => whnf)) | ((with_reducible apply k_f); decide +kernel; (conv => whnf)))))
namespace Xp
open PySem
abbrev Ps : List Df := Ds.map (·.df)
def sgn (a : Int) : Int := (cond (decide (0 < a)) 1 0) - (cond (decide (a < 0)) 1 0)
def ab (a : Int) : Int := if a < 0 then -a else a
theorem sgn_pos {a : Int} (h : 0 < a) : sgn a = 1 := by
  unfold sgn
  rw [decide_eq_true h, decide_eq_false (show ¬ a < 0 by omega)]
  rfl
theorem sgn_zero : sgn 0 = 0 := rfl
theorem sgn_neg {a : Int} (h : a < 0) : sgn a = -1 := by
  unfold sgn
  rw [decide_eq_true h, decide_eq_false (show ¬ 0 < a by omega)]
  rfl
theorem sgn_le {a : Int} : (sgn a ≤ 0) = (a ≤ 0) := by
  rcases Int.lt_trichotomy a 0 with h | h | h
  · rw [sgn_neg h]; apply propext; omega
  · subst h; rw [sgn_zero]
  · rw [sgn_pos h]; apply propext; omega
theorem sgn_lt {a : Int} : (sgn a < 0) = (a < 0) := by
  rcases Int.lt_trichotomy a 0 with h | h | h
  · rw [sgn_neg h]; apply propext; omega
  · subst h; rw [sgn_zero]
  · rw [sgn_pos h]; apply propext; omega
theorem Bs {j : Nat} {a : Int} (h : a.natAbs < 2 ^ 64) (l : 64 ≤ j) : B j a := (show B 64 a from h).mono l
theorem lit {j : Nat} {a : Int} (h : a.natAbs < 2 ^ 64) (l : decide (64 ≤ j) = true) : B j a := Bs h (of_decide_eq_true l)
theorem ab_B {k : Nat} {a : Int} (h : B k a) : B k (ab a) := by
  unfold ab B at *
  split <;> omega
theorem at_ok {xs : List PyData} {r : Int} (h0 : 0 ≤ r) (h1 : r < xs.length) : ∃ x, x ∈ xs ∧ atD xs r = some x := by
  obtain ⟨n, rfl⟩ := Int.eq_ofNat_of_zero_le h0
  have hn : n < xs.length := by omega
  refine ⟨xs[n], List.getElem_mem hn, ?_⟩
  unfold atD L2.atI L2.ixN
  rw [if_pos h0, if_pos h1]
  show xs[(n : Int).toNat]? = _
  rw [Int.toNat_natCast, List.getElem?_eq_getElem hn]
theorem at0 {x : PyData} {xs : List PyData} : atD (x :: xs) 0 = some x := by
  unfold atD L2.atI L2.ixN
  rw [if_pos (by decide), if_pos (by simp)]
  rfl
theorem rng_len (n : Nat) (lo : Int) : (rngD lo n).length = n := rngD_len n lo
theorem gcd_mod (a c : Int) : Int.gcd c (a % c) = Int.gcd a c := by
  have := Int.gcd_add_mul_left_right c (a % c) (a / c)
  rw [Int.emod_add_mul_ediv] at this
  rw [← this]
  exact Int.gcd_comm _ _
/-- a comprehension without a test -/
theorem rel_all {p : PyData → Prop} : ∀ {xs r : List PyData}, Rel (fun _ o => ∃ y, o = some y ∧ p y) xs r → r.length = xs.length ∧ ∀ y ∈ r, p y
  | _, _, .nil => ⟨rfl, fun y h => by cases h⟩
  | _, _, .cons h t => by
    obtain ⟨y, rfl, hy⟩ := h
    obtain ⟨h1, h2⟩ := rel_all t
    refine ⟨by simp [h1], fun z hz => ?_⟩
    rcases List.mem_cons.mp hz with rfl | q
    · exact hy
    · exact h2 z q
theorem len2 {xs : List PyData} (h : xs.length = 2) : ∃ a b, xs = [a, b] := by
  match xs, h with
  | [a, b], _ => exact ⟨a, b, rfl⟩
theorem len3 {xs : List PyData} (h : xs.length = 3) : ∃ a b c, xs = [a, b, c] := by
  match xs, h with
  | [a, b, c], _ => exact ⟨a, b, c, rfl⟩
theorem rng3 : rngD 0 (Int.toNat 3) = [.int 0, .int 1, .int 2] := rfl
theorem rng4 : rngD 0 (Int.toNat 4) = [.int 0, .int 1, .int 2, .int 3] := rfl
theorem rng_int {x : PyData} {lo : Int} {n : Nat} (h : x ∈ rngD lo n) : ∃ i : Int, x = .int i := by
  obtain ⟨i, hi⟩ := List.getElem?_of_mem h
  exact ⟨_, (rngD_get _ _ _ _ hi).2⟩
theorem loop_mono {f : PyData → S → Option (Fl × S)} {xs : List PyData} {l : Sl} {c : Cl} {QF QF' : Fl → Sl → Cl → Prop} (h : LoopI f xs l c QF) (k : ∀ f l c, QF f l c → QF' f l c) : LoopI f xs l c QF' := ⟨wq_mono h.1 k⟩
theorem len4 {xs : List PyData} (h : xs.length = 4) : ∃ a b c d, xs = [a, b, c, d] := by
  match xs, h with
  | [a, b, c, d], _ => exact ⟨a, b, c, d, rfl⟩
theorem len9 {xs : List PyData} (h : xs.length = 9) : ∃ a b c d e f g i j, xs = [a, b, c, d, e, f, g, i, j] := by
  match xs, h with
  | [a, b, c, d, e, f, g, i, j], _ => exact ⟨a, b, c, d, e, f, g, i, j, rfl⟩
section
variable {k : Nat} {st t : List Cell} {Q : R → List Cell → Prop}
theorem sign_spec {a : Int} (h : Q (.i (sgn a)) st) : CallI (call Ps Gs wfL (k + 1)) 0 [.d (.int a)] st Q := by
  refine into rfl rfl ?_
  and_intros
  exact h
theorem roll_spec {a b m : Int} (hm : 0 < m) (bm : m < 2 ^ 63) (h : ∀ r a' b', 0 ≤ r → r < m → Q (.i r) ([.int a', .int b'] :: t)) : CallI (call Ps Gs wfL (k + 1)) 22 [.cell 0, .d (.int m)] ([.int a, .int b] :: t) Q := by
  refine into rfl rfl ?_
  and_intros
  refine k_dec (fun _ => ?_) (fun _ => ?_)
  · and_intros
    · refine h _ _ _ ?_ ?_
      · rw [Int.fmod_eq_emod_of_nonneg _ (Int.le_of_lt hm)]; exact Int.emod_nonneg _ (Int.ne_of_gt hm)
      · rw [Int.fmod_eq_emod_of_nonneg _ (Int.le_of_lt hm)]; exact Int.emod_lt_of_pos _ hm
    · exact Int.ne_of_gt hm
    · exact divOk_of (j := 64) (show m.natAbs < 2 ^ 64 by omega) (by decide) (Int.ne_of_gt hm)
  · and_intros
    · refine h _ _ _ ?_ ?_
      · rw [Int.fmod_eq_emod_of_nonneg _ (Int.le_of_lt hm)]; exact Int.emod_nonneg _ (Int.ne_of_gt hm)
      · rw [Int.fmod_eq_emod_of_nonneg _ (Int.le_of_lt hm)]; exact Int.emod_lt_of_pos _ hm
    · refine mulOk_l (decide_eq_true ?_)
      rw [Int.fmod_eq_emod_of_nonneg _ (by decide)]
      omega
    · exact Int.ne_of_gt hm
theorem some_spec {xs : List PyData} {a b : Int} (h0 : 0 < xs.length) (h1 : xs.length < 1000) (h : ∀ x ∈ xs, ∀ a' b', Q (.w (.d x)) ([.int a', .int b'] :: t)) : CallI (call Ps Gs wfL (k + 2)) 23 [.cell 0, .d (.list xs)] ([.int a, .int b] :: t) Q := by
  refine into rfl rfl ?_
  and_intros
  refine roll_spec (by omega) (by omega) fun r a' b' hr0 hr1 => ?_
  obtain ⟨x, hx, e⟩ := at_ok hr0 hr1
  refine ix_l e ?_
  and_intros
  exact h x hx a' b'
theorem some_int {xs : List PyData} {a b : Int} {p : Int → Prop} (hp : ∀ x ∈ xs, ∃ v, x = .int v ∧ p v) (h0 : 0 < xs.length) (h1 : xs.length < 1000) (h : ∀ v a' b', p v → Q (.i v) ([.int a', .int b'] :: t)) : CallI (call Ps Gs wfL (k + 2)) 23 [.cell 0, .d (.list xs)] ([.int a, .int b] :: t) Q :=
  some_spec h0 h1 fun x hx a' b' => by
    obtain ⟨v, rfl, hv⟩ := hp x hx
    exact h v a' b' hv
theorem cup_spec {ns : List Int} (hl : ns.length ≤ 63) (h : ∀ a b, Q (.own [.int a, .int b]) []) : CallI (call Ps Gs wfL (k + 1)) 21 [.known ns] [] Q := by
  refine into rfl rfl ?_
  and_intros
  · cases ns with
    | nil =>
      and_intros
      exact h _ _
    | cons n r =>
      and_intros
      refine k_dec (fun _ => ?_) (fun _ => ?_)
      · and_intros
        exact h _ _
      · and_intros
        exact h _ _
  · rw [decide_eq_true_eq, List.length_map]
    simp
    omega
end
end Xp


/-! Q: the program's fractions are rational numbers. -/
namespace Xp
open PySem
abbrev fq (q : Rat) : PyData := .tuple [.int q.num, .int (q.den : Int)]
abbrev rq (q : Rat) : R := .w (.d (fq q))
theorem fq_of {t b : Int} (hb : b ≠ 0) : PyData.tuple [.int (Int.fdiv t ((Nat.gcd t.natAbs b.natAbs : Nat) * sgn b)), .int (Int.fdiv b ((Nat.gcd t.natAbs b.natAbs : Nat) * sgn b))] = fq (Rat.divInt t b) := by
  have hg : 0 < Nat.gcd t.natAbs b.natAbs := Nat.gcd_pos_of_pos_right _ (by omega)
  have e1 : (Rat.divInt t b).num = b.sign * t / (Nat.gcd t.natAbs b.natAbs : Nat) := by
    rw [Rat.num_divInt, Int.gcd_comm]; rfl
  have e2 : ((Rat.divInt t b).den : Int) = (b.natAbs : Int) / (Nat.gcd t.natAbs b.natAbs : Nat) := by
    rw [Rat.den_divInt, if_neg hb, Int.gcd_comm]; rfl
  have d1 : ((Nat.gcd t.natAbs b.natAbs : Nat) : Int) ∣ t := Int.ofNat_dvd_left.mpr (Nat.gcd_dvd_left _ _)
  have d2 : ((Nat.gcd t.natAbs b.natAbs : Nat) : Int) ∣ b := Int.ofNat_dvd_left.mpr (Nat.gcd_dvd_right _ _)
  have hg' : (0 : Int) < ((Nat.gcd t.natAbs b.natAbs : Nat) : Int) := by omega
  show _ = PyData.tuple [.int (Rat.divInt t b).num, .int ((Rat.divInt t b).den : Int)]
  rw [e1, e2]
  generalize ((Nat.gcd t.natAbs b.natAbs : Nat) : Int) = g at *
  obtain ⟨x, rfl⟩ := d1
  obtain ⟨y, hy⟩ := d2
  subst hy
  rcases Int.lt_trichotomy 0 (g * y) with h | h | h
  · have hs : Int.sign (g * y) = 1 := Int.sign_eq_one_of_pos h
    rw [sgn_pos h, hs, Int.mul_one, Int.one_mul, Int.natAbs_of_nonneg (Int.le_of_lt h), Int.fdiv_eq_ediv_of_nonneg _ (Int.le_of_lt hg'), Int.fdiv_eq_ediv_of_nonneg _ (Int.le_of_lt hg')]
  · exact absurd h.symm hb
  · have hs : Int.sign (g * y) = -1 := Int.sign_eq_neg_one_of_neg h
    have e3 : ((g * y).natAbs : Int) = -(g * y) := by omega
    have n1 : g * -1 = -g := by omega
    rw [sgn_neg h, hs, n1, e3, Int.fdiv_eq_ediv_of_dvd (Int.neg_dvd.mpr ⟨x, rfl⟩), Int.fdiv_eq_ediv_of_dvd (Int.neg_dvd.mpr ⟨y, rfl⟩), Int.ediv_neg, Int.ediv_neg, Int.neg_ediv_of_dvd ⟨y, rfl⟩]
    have n2 : -1 * (g * x) = -(g * x) := by omega
    rw [n2, Int.neg_ediv_of_dvd ⟨x, rfl⟩]
theorem fq_ne {a b : Rat} (h : a ≠ b) : ¬(a.num = b.num ∧ (a.den : Int) = b.den) := fun ⟨h1, h2⟩ => h (Rat.ext h1 (by omega))
theorem fq_eqv {a b : Rat} : PyData.eqv (fq a) (fq b) = decide (a = b) := by
  rw [Bool.eq_iff_iff]
  simp only [PyData.eqv, PyData.eqvAll, Bool.and_eq_true, decide_eq_true_eq, Bool.and_true]
  constructor
  · rintro ⟨h1, h2⟩
    exact Rat.ext (by simpa using h1) (by have := h2; simp at this; omega)
  · rintro rfl
    simp
theorem fq_int {t : Int} : fq (t : Rat) = .tuple [.int t, .int 1] := rfl
def cmpQ (a b : Rat) : Int := if a < b then -1 else if b < a then 1 else 0
theorem sgn_cross {a b : Rat} : sgn (a.num * b.den - b.num * a.den) = cmpQ a b := by
  unfold cmpQ
  by_cases h1 : a < b
  · rw [if_pos h1, sgn_neg (by rw [lt_cross]; exact h1)]
  · rw [if_neg h1]
    by_cases h2 : b < a
    · rw [if_pos h2, sgn_pos (by rw [gt_cross]; exact h2)]
    · rw [if_neg h2]
      have e1 : ¬ (a.num * b.den - b.num * a.den < 0) := by rw [lt_cross]; exact h1
      have e2 : ¬ (0 < a.num * b.den - b.num * a.den) := by rw [gt_cross]; exact h2
      rw [show a.num * b.den - b.num * a.den = 0 by omega, sgn_zero]
section
variable {k : Nat} {st t : List Cell} {Q : R → List Cell → Prop}
theorem lowest_q {t b : Int} (hb : b ≠ 0) (bb : B 8000 b) (h : Q (rq (Rat.divInt t b)) st) : CallI (call Ps Gs wfL (k + 2)) 1 [.d (.int t), .d (.int b)] st Q := by
  have g : 0 < Nat.gcd t.natAbs b.natAbs := Nat.gcd_pos_of_pos_right _ (by omega)
  have gl : Nat.gcd t.natAbs b.natAbs ≤ b.natAbs := Nat.le_of_dvd (by omega) (Nat.gcd_dvd_right _ _)
  have sg : sgn b = 1 ∨ sgn b = -1 := by
    rcases Int.lt_trichotomy 0 b with z | z | z
    · exact .inl (sgn_pos z)
    · exact absurd z.symm hb
    · exact .inr (sgn_neg z)
  have dk : divOk ((Nat.gcd t.natAbs b.natAbs : Nat) * sgn b) = true := by
    refine divOk_of (j := 8000) (bb.le ?_) (by decide) ?_ <;> rcases sg with z | z <;> rw [z] <;> omega
  have e := fq_of (t := t) hb
  refine into rfl rfl ?_
  and_intros
  refine sign_spec ?_
  and_intros
  · unfold rq at h
    rw [← e] at h
    exact h
  all_goals first | exact dk | (rcases sg with z | z <;> rw [z] <;> first | exact mulOk_r rfl | rfl)
theorem whole_q2 {t : Int} (h : Q (rq (t : Rat)) st) : CallI (call Ps Gs wfL (k + 1)) 10 [.d (.int t)] st Q := by
  refine into rfl rfl ?_
  and_intros
  exact h
theorem floor_q_spec {q : Rat} (hq : Hq 8000 q) (h : Q (.i q.floor) st) : CallI (call Ps Gs wfL (k + 1)) 8 [.d (fq q)] st Q := by
  refine into rfl rfl ?_
  and_intros
  · rw [Int.fdiv_eq_ediv_of_nonneg _ (Int.le_of_lt den_pos), floor_q]
    exact h
  · exact divOk_of hq.d (by decide) den_ne
theorem rounded_q {q : Rat} (hq : Hq 8000 q) (h : Q (.i (q + 1 / 2).floor) st) : CallI (call Ps Gs wfL (k + 1)) 9 [.d (fq q)] st Q := by
  refine into rfl rfl ?_
  and_intros
  · rw [Int.fdiv_eq_ediv_of_nonneg _ (by have := den_pos (q := q); omega), round_q]
    exact h
  · exact divOk_of (B.mul (show B 2 2 from by unfold B; decide) hq.d) (by decide) (by have := den_pos (q := q); omega)
theorem plus_q {a b : Rat} (ha : Hq 3000 a) (hb : Hq 3000 b) (h : Q (rq (a + b)) st) : CallI (call Ps Gs wfL (k + 3)) 3 [.d (fq a), .d (fq b)] st Q := by
  refine into rfl rfl ?_
  and_intros
  · refine lowest_q (Int.mul_ne_zero den_ne den_ne) ((ha.d.mul hb.d).mono (by decide)) ?_
    rw [add_div]
    and_intros
    exact h
  · exact mulOk_of ha.n hb.d (by decide)
  · exact mulOk_of hb.n ha.d (by decide)
  · exact mulOk_of ha.d hb.d (by decide)
theorem minus_q {a b : Rat} (ha : Hq 3000 a) (hb : Hq 3000 b) (h : Q (rq (a - b)) st) : CallI (call Ps Gs wfL (k + 3)) 4 [.d (fq a), .d (fq b)] st Q := by
  refine into rfl rfl ?_
  and_intros
  · refine lowest_q (Int.mul_ne_zero den_ne den_ne) ((ha.d.mul hb.d).mono (by decide)) ?_
    rw [sub_div]
    and_intros
    exact h
  · exact mulOk_of ha.n hb.d (by decide)
  · exact mulOk_of hb.n ha.d (by decide)
  · exact mulOk_of ha.d hb.d (by decide)
theorem times_q {a b : Rat} (ha : Hq 3000 a) (hb : Hq 3000 b) (h : Q (rq (a * b)) st) : CallI (call Ps Gs wfL (k + 3)) 5 [.d (fq a), .d (fq b)] st Q := by
  refine into rfl rfl ?_
  and_intros
  · refine lowest_q (Int.mul_ne_zero den_ne den_ne) ((ha.d.mul hb.d).mono (by decide)) ?_
    rw [mul_div]
    and_intros
    exact h
  · exact mulOk_of ha.n hb.n (by decide)
  · exact mulOk_of ha.d hb.d (by decide)
theorem fraction_q {t b : Int} (hb : b ≠ 0) (bb : B 8000 b) (h : Q (rq (Rat.divInt t b)) st) : CallI (call Ps Gs wfL (k + 3)) 2 [.d (.int t), .d (.int b)] st Q := by
  refine into rfl rfl ?_
  and_intros
  refine k_dec (fun z => absurd z hb) (fun _ => ?_)
  and_intros
  refine lowest_q hb bb ?_
  and_intros
  exact h
theorem over_q {a b : Rat} (hne : b ≠ 0) (ha : Hq 3000 a) (hb : Hq 3000 b) (h : Q (rq (a / b)) st) : CallI (call Ps Gs wfL (k + 4)) 6 [.d (fq a), .d (fq b)] st Q := by
  refine into rfl rfl ?_
  and_intros
  · refine fraction_q (Int.mul_ne_zero den_ne (num_ne hne)) ((ha.d.mul hb.n).mono (by decide)) ?_
    rw [div_div hne]
    and_intros
    exact h
  · exact mulOk_of ha.n hb.d (by decide)
  · exact mulOk_of ha.d hb.n (by decide)
theorem compared_q {a b : Rat} (ha : Hq 3000 a) (hb : Hq 3000 b) (h : Q (.i (cmpQ a b)) st) : CallI (call Ps Gs wfL (k + 2)) 7 [.d (fq a), .d (fq b)] st Q := by
  refine into rfl rfl ?_
  and_intros
  · refine sign_spec ?_
    rw [sgn_cross]
    and_intros
    exact h
  · exact mulOk_of ha.n hb.d (by decide)
  · exact mulOk_of hb.n ha.d (by decide)
/-! the laws' own fractions -/
abbrev fitT : Ex := .cmp .gt (.vb 4) (.int 0)
abbrev fitB : Sts := .cons (.par [3, 4] (.cons (.var 4) (.cons (.bin .sub (.vb 3) (.bin .mul (.bin .fdiv (.vb 3) (.vb 4)) (.vb 4))) (.nil)))) (.nil)
abbrev fitF (k : Nat) (s : S) := runs (call Ps Gs wfL k) Gs wfL fitB s
theorem fit_end {T U V : Option R} {a : Int} {n : Nat} {QF : Fl → Sl → Cl → Prop} (h : QF .nx [T, U, V, some (.i a), some (.i 0)] st) : WhlI (testW (call Ps Gs wfL k) Gs fitT) (fitF k) (n + 1) [T, U, V, some (.i a), some (.i 0)] st QF := by
  apply wh_c
  and_intros
  exact h
theorem fit_step {T U V : Option R} {a c : Int} {n : Nat} {QF : Fl → Sl → Cl → Prop} (hc : 0 < c) (ba : B 5000 a) (hb : B 5000 c) (h : WhlI (testW (call Ps Gs wfL k) Gs fitT) (fitF k) n [T, U, V, some (.i c), some (.i (a % c))] st QF) : WhlI (testW (call Ps Gs wfL k) Gs fitT) (fitF k) (n + 1) [T, U, V, some (.i a), some (.i c)] st QF := by
  apply wh_c
  and_intros
  refine k_dec (fun _ => ?_) (fun z => absurd hc z)
  and_intros
  · have e : a - a.fdiv c * c = a % c := by
      rw [Int.fdiv_eq_ediv_of_nonneg _ (Int.le_of_lt hc), Int.emod_def, Int.mul_comm]
    rw [e]
    exact h
  · exact divOk_of hb (by decide) (Int.ne_of_gt hc)
  · exact mulOk_of (ba.fdiv hc) hb (by decide)
theorem fit_loop {T U V : Option R} {QF : Fl → Sl → Cl → Prop} : ∀ (m n : Nat) (a c : Int), m ≤ 199 → B 5000 a → 0 ≤ a → 0 ≤ c → c < 2 ^ m → 2 * m + 1 ≤ n → QF .nx [T, U, V, some (.i (Int.gcd a c)), some (.i 0)] st → WhlI (testW (call Ps Gs wfL k) Gs fitT) (fitF k) n [T, U, V, some (.i a), some (.i c)] st QF
  | _, 0, _, _, _, _, _, _, _, hl, _ => by omega
  | m, n + 1, a, c, hm, ba, ha, hc, hb, hl, h => by
    have big : B 5000 c := by
      have h1 : c.natAbs < 2 ^ m := by
        have e : ((2 ^ m : Nat) : Int) = 2 ^ m := by push_cast; rfl
        omega
      exact (show B m c from h1).mono (by omega)
    by_cases z : c = 0
    · subst z
      refine fit_end ?_
      rw [Int.gcd_zero_right, Int.natAbs_of_nonneg ha] at h
      exact h
    · have hp : 0 < c := by omega
      refine fit_step hp ba big ?_
      have r0 : 0 ≤ a % c := Int.emod_nonneg _ z
      have r1 : a % c < c := Int.emod_lt_of_pos _ hp
      have g1 : Int.gcd c (a % c) = Int.gcd a c := gcd_mod _ _
      cases m with
      | zero => simp at hb; omega
      | succ m =>
      cases n with
      | zero => omega
      | succ n =>
      by_cases z2 : a % c = 0
      · rw [z2]
        refine fit_end ?_
        rw [← g1, z2, Int.gcd_zero_right, Int.natAbs_of_nonneg hc] at h
        exact h
      · have hp2 : 0 < a % c := by omega
        have br : B 5000 (a % c) := big.le (by omega)
        refine fit_step hp2 big br ?_
        have s0 : 0 ≤ c % (a % c) := Int.emod_nonneg _ z2
        have g2 : Int.gcd (a % c) (c % (a % c)) = Int.gcd a c := (gcd_mod _ _).trans g1
        have hs : c % (a % c) < 2 ^ m := by
          have s1 : c % (a % c) < a % c := Int.emod_lt_of_pos _ hp2
          have pw : (2 : Int) ^ (m + 1) = 2 * 2 ^ m := by rw [Int.pow_succ, Int.mul_comm]
          by_cases d : a % c < 2 ^ m
          · omega
          · have q1 : 1 ≤ c / (a % c) := (Int.le_ediv_iff_mul_le hp2).mpr (by omega)
            have q2 := Int.emod_add_mul_ediv c (a % c)
            have q3 : (a % c) * 1 ≤ (a % c) * (c / (a % c)) := Int.mul_le_mul_of_nonneg_left q1 r0
            omega
        refine fit_loop m n (a % c) (c % (a % c)) (by omega) br r0 s0 hs (by omega) ?_
        rw [g2]
        exact h
termination_by m => m
end
end Xp


namespace Xp
open PySem
/-! a paint at a place, by rationals -/
structure Ik where
  a : Int
  b : Int
  c : Int
def Ik.d (k : Ik) : PyData := .tuple [.int k.a, .int k.b, .int k.c]
structure Ik.ok (k : Ik) : Prop where
  a0 : 0 ≤ k.a
  a1 : k.a ≤ 100
  b0 : 0 ≤ k.b
  b1 : k.b ≤ 100
  c0 : 0 ≤ k.c
  c1 : k.c ≤ 100
inductive Eg where | held | again | back
def Eg.s : Eg → Str
  | .held => "held"
  | .again => "again"
  | .back => "back"
def aq (q : Rat) : Rat := if q < 0 then -q else q
def wayS (p0 p1 q0 q1 : Int) (X Y : Rat) : Rat := ((X - (p0 : Rat)) * ((q0 - p0 : Int) : Rat) + (Y - (p1 : Rat)) * ((q1 - p1 : Int) : Rat)) / (((q0 - p0) * (q0 - p0) + (q1 - p1) * (q1 - p1) : Int) : Rat)
def wayR (p0 p1 s : Int) (X Y : Rat) : Rat := (if aq (X - (p0 : Rat)) < aq (Y - (p1 : Rat)) then aq (Y - (p1 : Rat)) else aq (X - (p0 : Rat))) / (s : Rat)
def restQ (w : Rat) : Rat := w - ((2 * (w / ((2 : Int) : Rat)).floor : Int) : Rat)
def broughtQ : Eg → Rat → Rat
  | .held, w => if w < 0 then ((0 : Int) : Rat) else if 1 < w then 1 else w
  | .again, w => w - (w.floor : Rat)
  | .back, w => if restQ w ≤ 1 then restQ w else ((2 : Int) : Rat) - restQ w
def inkQ (one other : Int) (w : Rat) : Int := ((one : Rat) + w * ((other - one : Int) : Rat) + 1 / 2).floor
theorem cmp_lt {a b : Rat} : (cmpQ a b < 0) = (a < b) := by
  unfold cmpQ
  split
  · rename_i h; simp [h]
  · rename_i h
    split <;> simp [h]
theorem cmp_gt {a b : Rat} : (0 < cmpQ a b) = (b < a) := by
  unfold cmpQ
  split
  · rename_i h
    have : ¬ b < a := by grind
    simp [this]
  · rename_i h
    split
    · rename_i h2; simp [h2]
    · rename_i h2; simp [h2]
theorem cmp_le {a b : Rat} : (cmpQ a b ≤ 0) = (a ≤ b) := by
  have h : (cmpQ a b ≤ 0) = ¬ (0 < cmpQ a b) := by apply propext; omega
  rw [h, cmp_gt]
  apply propext
  grind
theorem num_lt {q : Rat} : (q.num < 0) = (q < 0) := by
  have := Rat.num_nonneg (q := q)
  apply propext
  grind
theorem aq_d {q : Rat} : PyData.tuple [.int (if q.num < 0 then -q.num else q.num), .int (q.den : Int)] = fq (aq q) := by
  unfold aq fq
  by_cases h : q < 0
  · rw [if_pos h, if_pos (by rw [num_lt]; exact h)]
    rfl
  · rw [if_neg h, if_neg (by rw [num_lt]; exact h)]
theorem aq_H {k : Nat} {q : Rat} (h : Hq k q) : Hq k (aq q) := by
  unfold aq
  split
  · exact h.neg
  · exact h
theorem floor_B {k : Nat} {q : Rat} (h : Hq k q) : B k q.floor := by
  rw [← floor_q]
  exact h.n.le (Int.natAbs_ediv_le_natAbs _ _)
section
variable {k : Nat} {st : List Cell} {Q : R → List Cell → Prop}
theorem apart_q {X Y : Rat} {p0 p1 : Int} (hX : Hq 200 X) (hY : Hq 200 Y) (h0 : B 10 p0) (h1 : B 10 p1) (h : Q (.t [fq (X - (p0 : Rat)), fq (Y - (p1 : Rat))]) st) : CallI (call Ps Gs wfL (k + 4)) 11 [.d (.tuple [fq X, fq Y]), .d (.tuple [.int p0, .int p1])] st Q := by
  refine into rfl rfl ?_
  and_intros
  refine whole_q2 ?_
  and_intros
  refine minus_q (hX.mono (by decide)) ((Hq.int h0 (by decide)).mono (by decide)) ?_
  and_intros
  refine whole_q2 ?_
  and_intros
  refine minus_q (hY.mono (by decide)) ((Hq.int h1 (by decide)).mono (by decide)) ?_
  and_intros
  exact h
theorem along_q {X Y : Rat} {p0 p1 q0 q1 : Int} {x0 x3 x4 x5 : PyData} (hX : Hq 200 X) (hY : Hq 200 Y) (h0 : B 10 p0) (h1 : B 10 p1) (h2 : B 10 q0) (h3 : B 10 q1) (hn : (q0 - p0) * (q0 - p0) + (q1 - p1) * (q1 - p1) ≠ 0) (h : Q (rq (wayS p0 p1 q0 q1 X Y)) st) : CallI (call Ps Gs wfL (k + 5)) 12 [.d (.tuple [x0, .tuple [.int p0, .int p1], .tuple [.int q0, .int q1], x3, x4, x5]), .d (.tuple [fq X, fq Y])] st Q := by
  refine into rfl rfl ?_
  and_intros
  refine apart_q hX hY h0 h1 ?_
  have bx : B 11 (q0 - p0) := by unfold B at *; omega
  have by' : B 11 (q1 - p1) := by unfold B at *; omega
  have r0 : Hq 211 (X - (p0 : Rat)) := (hX.sub (Hq.int h0 (by decide))).mono (by decide)
  have r1 : Hq 211 (Y - (p1 : Rat)) := (hY.sub (Hq.int h1 (by decide))).mono (by decide)
  have ix : Hq 11 ((q0 - p0 : Int) : Rat) := Hq.int bx (by decide)
  have iy : Hq 11 ((q1 - p1 : Int) : Rat) := Hq.int by' (by decide)
  have bn : B 23 ((q0 - p0) * (q0 - p0) + (q1 - p1) * (q1 - p1)) := (bx.mulp bx).addp (by'.mulp by') (by decide) (by decide)
  and_intros
  refine whole_q2 ?_
  and_intros
  refine times_q (r0.mono (by decide)) (ix.mono (by decide)) ?_
  and_intros
  refine whole_q2 ?_
  and_intros
  refine times_q (r1.mono (by decide)) (iy.mono (by decide)) ?_
  and_intros
  refine plus_q ((r0.mul ix).mono (by decide)) ((r1.mul iy).mono (by decide)) ?_
  and_intros
  · refine whole_q2 ?_
    and_intros
    refine over_q ?_ (((r0.mul ix).add (r1.mul iy)).mono (by decide)) ((Hq.int bn (by decide)).mono (by decide)) ?_
    · intro z
      exact hn (by exact_mod_cast z)
    · and_intros
      exact h
  all_goals first | exact mulOk_of bx bx (by decide) | exact mulOk_of by' by' (by decide)
theorem sign_q {q : Rat} (h : Q (rq (aq q)) st) : CallI (call Ps Gs wfL (k + 1)) 13 [.d (fq q)] st Q := by
  refine into rfl rfl ?_
  and_intros
  have e := aq_d (q := q)
  unfold rq at h
  rw [← e] at h
  exact h
theorem around_q {X Y : Rat} {p0 p1 s : Int} {x0 x3 x4 x5 : PyData} (hX : Hq 200 X) (hY : Hq 200 Y) (h0 : B 10 p0) (h1 : B 10 p1) (hs : 0 < s) (h2 : B 10 s) (h : Q (rq (wayR p0 p1 s X Y)) st) : CallI (call Ps Gs wfL (k + 5)) 14 [.d (.tuple [x0, .tuple [.int p0, .int p1], .int s, x3, x4, x5]), .d (.tuple [fq X, fq Y])] st Q := by
  refine into rfl rfl ?_
  and_intros
  refine apart_q hX hY h0 h1 ?_
  have r0 : Hq 211 (aq (X - (p0 : Rat))) := aq_H ((hX.sub (Hq.int h0 (by decide))).mono (by decide))
  have r1 : Hq 211 (aq (Y - (p1 : Rat))) := aq_H ((hY.sub (Hq.int h1 (by decide))).mono (by decide))
  and_intros
  refine sign_q ?_
  and_intros
  refine sign_q ?_
  and_intros
  refine compared_q (r0.mono (by decide)) (r1.mono (by decide)) ?_
  have ne : (s : Rat) ≠ 0 := fun z => by
    have : s = 0 := by exact_mod_cast z
    omega
  unfold wayR at h
  and_intros
  refine k_dec (fun e => ?_) (fun e => ?_)
  · rw [cmp_lt] at e
    rw [if_pos e] at h
    and_intros
    refine whole_q2 ?_
    and_intros
    refine over_q ne (r1.mono (by decide)) ((Hq.int h2 (by decide)).mono (by decide)) ?_
    and_intros
    exact h
  · rw [cmp_lt] at e
    rw [if_neg e] at h
    and_intros
    refine whole_q2 ?_
    and_intros
    refine over_q ne (r0.mono (by decide)) ((Hq.int h2 (by decide)).mono (by decide)) ?_
    and_intros
    exact h
theorem held_q {w : Rat} (hw : Hq 600 w) (h : Q (rq (broughtQ .held w)) st) : CallI (call Ps Gs wfL (k + 3)) 17 [.d (fq w)] st Q := by
  refine into rfl rfl ?_
  and_intros
  change Q (rq (if w < 0 then ((0 : Int) : Rat) else if 1 < w then 1 else w)) st at h
  refine k_dec (fun e => ?_) (fun e => ?_)
  · rw [num_lt] at e
    rw [if_pos e] at h
    and_intros
    refine whole_q2 ?_
    and_intros
    exact h
  · rw [num_lt] at e
    rw [if_neg e] at h
    and_intros
    refine compared_q (b := 1) (hw.mono (by decide)) ⟨by decide, by decide⟩ ?_
    and_intros
    refine k_dec (fun e => ?_) (fun e => ?_)
    · rw [cmp_gt] at e
      rw [if_pos e] at h
      and_intros
      exact h
    · rw [cmp_gt] at e
      rw [if_neg e] at h
      and_intros
      exact h
theorem brought_q {w : Rat} {e : Eg} (hw : Hq 600 w) (h : Q (rq (broughtQ e w)) st) : CallI (call Ps Gs wfL (k + 5)) 16 [.d (fq w), .d (.str e.s)] st Q := by
  refine into rfl rfl ?_
  have bf := floor_B hw
  cases e with
  | again =>
    change Q (rq (w - (w.floor : Rat))) st at h
    and_intros
    refine floor_q_spec (hw.mono (by decide)) ?_
    and_intros
    refine whole_q2 ?_
    and_intros
    refine minus_q (hw.mono (by decide)) ((Hq.int bf (by decide)).mono (by decide)) ?_
    and_intros
    exact h
  | held =>
    and_intros
    refine held_q hw ?_
    and_intros
    exact h
  | back =>
    change Q (rq (if restQ w ≤ 1 then restQ w else ((2 : Int) : Rat) - restQ w)) st at h
    have h2 : Hq 3 ((2 : Int) : Rat) := Hq.int (by unfold B; decide) (by decide)
    have hd : Hq 603 (w / ((2 : Int) : Rat)) := (Hq.div (by decide) hw h2).mono (by decide)
    have bd := floor_B hd
    have b2 : B 605 (2 * (w / ((2 : Int) : Rat)).floor) := by unfold B at *; omega
    have hr : Hq 1206 (restQ w) := (hw.sub (Hq.int b2 (by decide))).mono (by decide)
    and_intros
    refine whole_q2 ?_
    and_intros
    refine over_q (by decide) (hw.mono (by decide)) (h2.mono (by decide)) ?_
    and_intros
    refine floor_q_spec (hd.mono (by decide)) ?_
    and_intros
    · refine whole_q2 ?_
      and_intros
      refine minus_q (hw.mono (by decide)) ((Hq.int b2 (by decide)).mono (by decide)) ?_
      and_intros
      refine compared_q (b := 1) (hr.mono (by decide)) ⟨by decide, by decide⟩ ?_
      and_intros
      refine k_dec (fun e => ?_) (fun e => ?_)
      · rw [cmp_le] at e
        rw [if_pos (show restQ w ≤ 1 from e)] at h
        and_intros
        exact h
      · rw [cmp_le] at e
        rw [if_neg (show ¬ restQ w ≤ 1 from e)] at h
        and_intros
        refine whole_q2 ?_
        and_intros
        refine minus_q (h2.mono (by decide)) (hr.mono (by decide)) ?_
        and_intros
        exact h
    all_goals exact mulOk_of (j := 3) (k := 603) (by unfold B; decide) bd (by decide)
theorem ink_q {w : Rat} {one other : Int} (hw : Hq 1500 w) (h1 : B 10 one) (h2 : B 10 other) (h : Q (.i (inkQ one other w)) st) : CallI (call Ps Gs wfL (k + 4)) 18 [.d (.int one), .d (.int other), .d (fq w)] st Q := by
  refine into rfl rfl ?_
  have b : B 11 (other - one) := by unfold B at *; omega
  have i1 : Hq 10 (one : Rat) := Hq.int h1 (by decide)
  have i2 : Hq 11 ((other - one : Int) : Rat) := Hq.int b (by decide)
  and_intros
  refine whole_q2 ?_
  and_intros
  refine whole_q2 ?_
  and_intros
  refine times_q (hw.mono (by decide)) (i2.mono (by decide)) ?_
  and_intros
  refine plus_q (i1.mono (by decide)) ((hw.mul i2).mono (by decide)) ?_
  and_intros
  refine rounded_q ((i1.add (hw.mul i2)).mono (by decide)) ?_
  and_intros
  exact h
/-! paints -/
def tint (r : Option Ik) : PyData := match r with
  | none => .none
  | some k => k.d
inductive Pt where
  | plain (c : Ik)
  | slope (p0 p1 q0 q1 : Int) (c d : Ik) (e : Eg)
  | rings (p0 p1 s : Int) (c d : Ik) (e : Eg)
  | tiles (s : Int) (rows : List (List (Option Ik)))
def rowsD (rows : List (List (Option Ik))) : List PyData := rows.map fun r => .tuple (r.map tint)
def Pt.d : Pt → PyData
  | .plain c => .tuple [.str "plain", c.d]
  | .slope p0 p1 q0 q1 c d e => .tuple [.str "slope", .tuple [.int p0, .int p1], .tuple [.int q0, .int q1], c.d, d.d, .str e.s]
  | .rings p0 p1 s c d e => .tuple [.str "rings", .tuple [.int p0, .int p1], .int s, c.d, d.d, .str e.s]
  | .tiles s rows => .tuple [.str "tiles", .int s, .tuple (rowsD rows)]
def inksQ (c d : Ik) (w : Rat) : PyData := .tuple [.int (inkQ c.a d.a w), .int (inkQ c.b d.b w), .int (inkQ c.c d.c w)]
structure Small (p0 p1 : Int) : Prop where
  a : B 10 p0
  b : B 10 p1
theorem ik_B {k : Ik} (h : k.ok) : B 10 k.a ∧ B 10 k.b ∧ B 10 k.c := by
  have := h.a0; have := h.a1; have := h.b0; have := h.b1; have := h.c0; have := h.c1
  unfold B
  omega
theorem way_H {p0 p1 q0 q1 : Int} {X Y : Rat} (hX : Hq 200 X) (hY : Hq 200 Y) (h0 : B 10 p0) (h1 : B 10 p1) (h2 : B 10 q0) (h3 : B 10 q1) (hn : (q0 - p0) * (q0 - p0) + (q1 - p1) * (q1 - p1) ≠ 0) : Hq 600 (wayS p0 p1 q0 q1 X Y) := by
  have bx : B 11 (q0 - p0) := by unfold B at *; omega
  have by' : B 11 (q1 - p1) := by unfold B at *; omega
  have r0 : Hq 211 (X - (p0 : Rat)) := (hX.sub (Hq.int h0 (by decide))).mono (by decide)
  have r1 : Hq 211 (Y - (p1 : Rat)) := (hY.sub (Hq.int h1 (by decide))).mono (by decide)
  have ix : Hq 11 ((q0 - p0 : Int) : Rat) := Hq.int bx (by decide)
  have iy : Hq 11 ((q1 - p1 : Int) : Rat) := Hq.int by' (by decide)
  have bn : B 23 ((q0 - p0) * (q0 - p0) + (q1 - p1) * (q1 - p1)) := (bx.mulp bx).addp (by'.mulp by') (by decide) (by decide)
  exact (Hq.div (fun z => hn (by exact_mod_cast z)) ((r0.mul ix).add (r1.mul iy)) (Hq.int bn (by decide))).mono (by decide)
theorem wayR_H {p0 p1 s : Int} {X Y : Rat} (hX : Hq 200 X) (hY : Hq 200 Y) (h0 : B 10 p0) (h1 : B 10 p1) (hs : 0 < s) (h2 : B 10 s) : Hq 600 (wayR p0 p1 s X Y) := by
  have r0 : Hq 211 (aq (X - (p0 : Rat))) := aq_H ((hX.sub (Hq.int h0 (by decide))).mono (by decide))
  have r1 : Hq 211 (aq (Y - (p1 : Rat))) := aq_H ((hY.sub (Hq.int h1 (by decide))).mono (by decide))
  have ne : (s : Rat) ≠ 0 := fun z => by
    have : s = 0 := by exact_mod_cast z
    omega
  unfold wayR
  split
  · exact (Hq.div ne r1 (Hq.int h2 (by decide))).mono (by decide)
  · exact (Hq.div ne r0 (Hq.int h2 (by decide))).mono (by decide)
theorem brought_H {e : Eg} {w : Rat} (hw : Hq 600 w) : Hq 1500 (broughtQ e w) := by
  have bf := floor_B hw
  have h1 : Hq 3 (1 : Rat) := ⟨by decide, by decide⟩
  have h2 : Hq 3 ((2 : Int) : Rat) := Hq.int (by unfold B; decide) (by decide)
  have hd : Hq 603 (w / ((2 : Int) : Rat)) := (Hq.div (by decide) hw h2).mono (by decide)
  have bd := floor_B hd
  have b2 : B 605 (2 * (w / ((2 : Int) : Rat)).floor) := by unfold B at *; omega
  have hr : Hq 1206 (restQ w) := (hw.sub (Hq.int b2 (by decide))).mono (by decide)
  cases e with
  | again => exact (hw.sub (Hq.int bf (by decide))).mono (by decide)
  | held =>
    show Hq 1500 (if w < 0 then ((0 : Int) : Rat) else if 1 < w then 1 else w)
    split
    · exact Hq.int (by unfold B; decide) (by decide)
    · split
      · exact h1.mono (by decide)
      · exact hw.mono (by decide)
  | back =>
    show Hq 1500 (if restQ w ≤ 1 then restQ w else ((2 : Int) : Rat) - restQ w)
    split
    · exact hr.mono (by decide)
    · exact (h2.sub hr).mono (by decide)
theorem slope_at {X Y : Rat} {p0 p1 q0 q1 : Int} {c d : Ik} {e : Eg} (hX : Hq 200 X) (hY : Hq 200 Y) (h0 : B 10 p0) (h1 : B 10 p1) (h2 : B 10 q0) (h3 : B 10 q1) (hn : (q0 - p0) * (q0 - p0) + (q1 - p1) * (q1 - p1) ≠ 0) (hc : c.ok) (hd : d.ok)
    (h : Q (.w (.d (inksQ c d (broughtQ e (wayS p0 p1 q0 q1 X Y))))) st) : CallI (call Ps Gs wfL (k + 7)) 20 [.d (Pt.slope p0 p1 q0 q1 c d e).d, .d (.tuple [fq X, fq Y])] st Q := by
  refine into rfl rfl ?_
  obtain ⟨c1, c2, c3⟩ := ik_B hc
  obtain ⟨d1, d2, d3⟩ := ik_B hd
  have hw := way_H hX hY h0 h1 h2 h3 hn
  have hb := brought_H (e := e) hw
  and_intros
  refine into rfl rfl ?_
  and_intros
  refine along_q hX hY h0 h1 h2 h3 hn ?_
  and_intros
  refine brought_q hw ?_
  and_intros
  refine lc_c ?_
  and_intros
  refine ink_q hb c1 d1 ?_
  and_intros
  refine lc_c ?_
  and_intros
  refine ink_q hb c2 d2 ?_
  and_intros
  refine lc_c ?_
  and_intros
  refine ink_q hb c3 d3 ?_
  and_intros
  refine lc_n ?_
  and_intros
  exact h
theorem rings_at {X Y : Rat} {p0 p1 s : Int} {c d : Ik} {e : Eg} (hX : Hq 200 X) (hY : Hq 200 Y) (h0 : B 10 p0) (h1 : B 10 p1) (hs : 0 < s) (h2 : B 10 s) (hc : c.ok) (hd : d.ok)
    (h : Q (.w (.d (inksQ c d (broughtQ e (wayR p0 p1 s X Y))))) st) : CallI (call Ps Gs wfL (k + 7)) 20 [.d (Pt.rings p0 p1 s c d e).d, .d (.tuple [fq X, fq Y])] st Q := by
  refine into rfl rfl ?_
  obtain ⟨c1, c2, c3⟩ := ik_B hc
  obtain ⟨d1, d2, d3⟩ := ik_B hd
  have hw := wayR_H hX hY h0 h1 hs h2
  have hb := brought_H (e := e) hw
  and_intros
  refine into rfl rfl ?_
  and_intros
  refine around_q hX hY h0 h1 hs h2 ?_
  and_intros
  refine brought_q hw ?_
  and_intros
  refine lc_c ?_
  and_intros
  refine ink_q hb c1 d1 ?_
  and_intros
  refine lc_c ?_
  and_intros
  refine ink_q hb c2 d2 ?_
  and_intros
  refine lc_c ?_
  and_intros
  refine ink_q hb c3 d3 ?_
  and_intros
  refine lc_n ?_
  and_intros
  exact h
theorem plain_at {X : PyData} {c : Ik} (h : Q (.w (.d c.d)) st) : CallI (call Ps Gs wfL (k + 7)) 20 [.d (Pt.plain c).d, .d X] st Q := by
  refine into rfl rfl ?_
  and_intros
  exact h
/-- the tile that is shown -/
def tileQ (s : Int) (rows : List (List (Option Ik))) (n : Nat) (X Y : Rat) : Option (Option Ik) := (rows[((Y / (s : Rat)).floor % (rows.length : Int)).toNat]?).bind fun r => r[((X / (s : Rat)).floor % (n : Int)).toNat]?
structure Tl (s : Int) (rows : List (List (Option Ik))) (n : Nat) : Prop where
  s0 : 0 < s
  s1 : s ≤ 99
  n0 : 0 < n
  n1 : n ≤ 4
  r0 : 0 < rows.length
  r1 : rows.length ≤ 4
  len : ∀ r ∈ rows, r.length = n
  ok : ∀ r ∈ rows, ∀ t ∈ r, ∀ k, t = some k → k.ok
theorem rows_get {rows : List (List (Option Ik))} {i : Nat} {r : List (Option Ik)} (h : rows[i]? = some r) : (rowsD rows)[i]? = some (.tuple (r.map tint)) := by
  unfold rowsD
  rw [List.getElem?_map, h]
  rfl
theorem tile_at_q {X Y : Rat} {s : Int} {rows : List (List (Option Ik))} {n : Nat} (ht : Tl s rows n) (hX : Hq 200 X) (hY : Hq 200 Y) (h : Q (.t [.int ((X / (s : Rat)).floor % (n : Int)), .int ((Y / (s : Rat)).floor % (rows.length : Int))]) st) : CallI (call Ps Gs wfL (k + 5)) 19 [.d (Pt.tiles s rows).d, .d (.tuple [fq X, fq Y])] st Q := by
  refine into rfl rfl ?_
  have hs : B 10 s := by have := ht.s0; have := ht.s1; unfold B; omega
  have ne : (s : Rat) ≠ 0 := fun z => by
    have : s = 0 := by exact_mod_cast z
    have := ht.s0
    omega
  have hx : Hq 220 (X / (s : Rat)) := (Hq.div ne hX (Hq.int hs (by decide))).mono (by decide)
  have hy : Hq 220 (Y / (s : Rat)) := (Hq.div ne hY (Hq.int hs (by decide))).mono (by decide)
  have hr0 := ht.r0
  have hn0 := ht.n0
  cases rows with
  | nil => simp at hr0
  | cons r rs =>
    have hl : (r.map tint).length = n := by rw [List.length_map]; exact ht.len r List.mem_cons_self
    have hl2 : (rowsD (r :: rs)).length = (r :: rs).length := List.length_map _
    and_intros
    refine whole_q2 ?_
    and_intros
    refine over_q ne (hX.mono (by decide)) ((Hq.int hs (by decide)).mono (by decide)) ?_
    and_intros
    refine floor_q_spec (hx.mono (by decide)) ?_
    and_intros
    · refine over_q ne (hY.mono (by decide)) ((Hq.int hs (by decide)).mono (by decide)) ?_
      and_intros
      refine floor_q_spec (hy.mono (by decide)) ?_
      and_intros
      · rw [hl, hl2, Int.fmod_eq_emod_of_nonneg _ (Int.natCast_nonneg _), Int.fmod_eq_emod_of_nonneg _ (Int.natCast_nonneg _)]
        exact h
      · rw [hl2]
        simp
        omega
    · rw [hl]
      omega
theorem tiles_at {X Y : Rat} {s : Int} {rows : List (List (Option Ik))} {n : Nat} {o : Option Ik} (ht : Tl s rows n) (hX : Hq 200 X) (hY : Hq 200 Y) (ho : tileQ s rows n X Y = some o) (h : Q (.w (.d (tint o))) st) : CallI (call Ps Gs wfL (k + 7)) 20 [.d (Pt.tiles s rows).d, .d (.tuple [fq X, fq Y])] st Q := by
  refine into rfl rfl ?_
  and_intros
  refine tile_at_q ht hX hY ?_
  unfold tileQ at ho
  obtain ⟨r, hr, hr2⟩ := Option.bind_eq_some_iff.mp ho
  have hn : (0 : Int) < n := by have := ht.n0; omega
  have hm : (0 : Int) < (rows.length : Int) := by have := ht.r0; omega
  have e1 := Int.toNat_of_nonneg (Int.emod_nonneg (Y / (s : Rat)).floor (Int.ne_of_gt hm))
  have e2 := Int.toNat_of_nonneg (Int.emod_nonneg (X / (s : Rat)).floor (Int.ne_of_gt hn))
  rw [← e1, ← e2]
  and_intros
  refine getP_of (rows_get hr) ?_
  and_intros
  have e3 : (r.map tint)[((X / (s : Rat)).floor % (n : Int)).toNat]? = some (tint o) := by
    rw [List.getElem?_map, hr2]
    rfl
  refine getP_of e3 ?_
  and_intros
  exact h
end
theorem tile_some {s : Int} {rows : List (List (Option Ik))} {n : Nat} {X Y : Rat} (ht : Tl s rows n) : ∃ o, tileQ s rows n X Y = some o ∧ ∀ k, o = some k → k.ok := by
  have hn : (0 : Int) < n := by have := ht.n0; omega
  have hm : (0 : Int) < (rows.length : Int) := by have := ht.r0; omega
  have a1 := Int.emod_nonneg (Y / (s : Rat)).floor (Int.ne_of_gt hm)
  have a2 := Int.emod_lt_of_pos (Y / (s : Rat)).floor hm
  have b1 := Int.emod_nonneg (X / (s : Rat)).floor (Int.ne_of_gt hn)
  have b2 := Int.emod_lt_of_pos (X / (s : Rat)).floor hn
  have i1 : ((Y / (s : Rat)).floor % (rows.length : Int)).toNat < rows.length := by omega
  have hr := ht.len rows[((Y / (s : Rat)).floor % (rows.length : Int)).toNat] (List.getElem_mem i1)
  have i2 : ((X / (s : Rat)).floor % (n : Int)).toNat < (rows[((Y / (s : Rat)).floor % (rows.length : Int)).toNat]).length := by rw [hr]; omega
  refine ⟨(rows[((Y / (s : Rat)).floor % (rows.length : Int)).toNat])[((X / (s : Rat)).floor % (n : Int)).toNat], ?_, fun k hk => ht.ok _ (List.getElem_mem i1) _ (List.getElem_mem i2) k hk⟩
  unfold tileQ
  rw [List.getElem?_eq_getElem i1]
  show (rows[((Y / (s : Rat)).floor % (rows.length : Int)).toNat])[((X / (s : Rat)).floor % (n : Int)).toNat]? = _
  rw [List.getElem?_eq_getElem i2]
end Xp


namespace Xp
open PySem
/-! what the law draws -/
inductive Good : Pt → Prop
  | plain {c : Ik} : c.ok → Good (.plain c)
  | slope {p0 p1 q0 q1 : Int} {c d : Ik} {e : Eg} : -200 ≤ p0 → p0 ≤ 200 → -200 ≤ p1 → p1 ≤ 200 → -200 ≤ q0 → q0 ≤ 200 → -200 ≤ q1 → q1 ≤ 200 → (q0 ≠ p0 ∨ q1 ≠ p1) → c.ok → d.ok → Good (.slope p0 p1 q0 q1 c d e)
  | rings {p0 p1 s : Int} {c d : Ik} {e : Eg} : -200 ≤ p0 → p0 ≤ 200 → -200 ≤ p1 → p1 ≤ 200 → 1 ≤ s → s ≤ 200 → c.ok → d.ok → Good (.rings p0 p1 s c d e)
  | tiles {s : Int} {rows : List (List (Option Ik))} {n : Nat} : Tl s rows n → Good (.tiles s rows)
theorem ints3 {lo hi : Int} {xs : List PyData} (hl : xs.length = 3) (h : ∀ y ∈ xs, ∃ i : Int, y = .int i ∧ lo ≤ i ∧ i ≤ hi) : ∃ a b c : Int, xs = [.int a, .int b, .int c] ∧ (lo ≤ a ∧ a ≤ hi) ∧ (lo ≤ b ∧ b ≤ hi) ∧ (lo ≤ c ∧ c ≤ hi) := by
  obtain ⟨x, y, z, rfl⟩ := len3 hl
  obtain ⟨a, rfl, ha⟩ := h x (by simp)
  obtain ⟨b, rfl, hb⟩ := h y (by simp)
  obtain ⟨c, rfl, hc⟩ := h z (by simp)
  exact ⟨a, b, c, rfl, ha, hb, hc⟩
theorem ints2 {lo hi : Int} {xs : List PyData} (hl : xs.length = 2) (h : ∀ y ∈ xs, ∃ i : Int, y = .int i ∧ lo ≤ i ∧ i ≤ hi) : ∃ a b : Int, xs = [.int a, .int b] ∧ (lo ≤ a ∧ a ≤ hi) ∧ (lo ≤ b ∧ b ≤ hi) := by
  obtain ⟨x, y, rfl⟩ := len2 hl
  obtain ⟨a, rfl, ha⟩ := h x (by simp)
  obtain ⟨b, rfl, hb⟩ := h y (by simp)
  exact ⟨a, b, rfl, ha, hb⟩
theorem tints_of : ∀ {xs : List PyData}, (∀ y ∈ xs, ∃ o : Option Ik, y = tint o ∧ ∀ k, o = some k → k.ok) → ∃ r : List (Option Ik), xs = r.map tint ∧ ∀ t ∈ r, ∀ k, t = some k → k.ok
  | [], _ => ⟨[], rfl, by simp⟩
  | x :: xs, h => by
    obtain ⟨o, rfl, ho⟩ := h x List.mem_cons_self
    obtain ⟨r, rfl, hr⟩ := tints_of (xs := xs) fun y hy => h y (List.mem_cons_of_mem _ hy)
    exact ⟨o :: r, rfl, fun t ht => by
      rcases List.mem_cons.mp ht with rfl | q
      · exact ho
      · exact hr t q⟩
theorem rows_of {n : Nat} : ∀ {xs : List PyData}, (∀ y ∈ xs, ∃ r : List (Option Ik), y = .tuple (r.map tint) ∧ r.length = n ∧ ∀ t ∈ r, ∀ k, t = some k → k.ok) → ∃ rows : List (List (Option Ik)), xs = rowsD rows ∧ (∀ r ∈ rows, r.length = n) ∧ ∀ r ∈ rows, ∀ t ∈ r, ∀ k, t = some k → k.ok
  | [], _ => ⟨[], rfl, by simp, by simp⟩
  | x :: xs, h => by
    obtain ⟨o, rfl, ho, ho2⟩ := h x List.mem_cons_self
    obtain ⟨r, rfl, hr, hr2⟩ := rows_of (xs := xs) fun y hy => h y (List.mem_cons_of_mem _ hy)
    exact ⟨o :: r, rfl, fun t ht => by
      rcases List.mem_cons.mp ht with rfl | q
      · exact ho
      · exact hr t q, fun t ht => by
      rcases List.mem_cons.mp ht with rfl | q
      · exact ho2
      · exact hr2 t q⟩
section
variable {k : Nat} {st t : List Cell} {Q : R → List Cell → Prop}
theorem links_spec {a b : Int} (h : ∀ c a' b', Ik.ok c → Q (.w (.d c.d)) ([.int a', .int b'] :: t)) : CallI (call Ps Gs wfL (k + 3)) 24 [.cell 0] ([.int a, .int b] :: t) Q := by
  refine into rfl rfl ?_
  and_intros
  refine lc_inv (fun l c => ∃ u a b, l = [some (.w (.cell 0)), u] ∧ [.int a, .int b] :: t = c) (fun x o => ∃ y, o = some y ∧ ∃ i : Int, y = .int i ∧ 0 ≤ i ∧ i ≤ 100) ⟨_, _, _, rfl, rfl⟩ ?turn ?last
  case turn =>
    rintro x hx l c ⟨u, a, b, rfl, rfl⟩
    and_intros
    refine roll_spec (by decide) (by decide) fun r a b h0 h1 => ?_
    and_intros
    refine some_int (p := fun i => 0 ≤ i ∧ i ≤ 100) ?_ (by simp) (by simp) fun v a b hv => ?_
    · intro x hx
      simp only [List.mem_cons, List.not_mem_nil, or_false] at hx
      rcases hx with rfl | rfl | rfl | rfl | rfl | rfl
      all_goals exact ⟨_, rfl, by omega, by omega⟩
    · and_intros
      exact ⟨⟨_, rfl, _, rfl, hv⟩, _, _, _, rfl, rfl⟩
  case last =>
    rintro xs l c hx ⟨u, a, b, rfl, rfl⟩
    obtain ⟨q1, q2⟩ := rel_all hx
    rw [rng_len] at q1
    obtain ⟨a', b', c', rfl, ha, hb, hc⟩ := ints3 q1 q2
    and_intros
    exact h ⟨a', b', c'⟩ _ _ ⟨ha.1, ha.2, hb.1, hb.2, hc.1, hc.2⟩
theorem lpoint_spec {a b : Int} (h : ∀ p0 p1 a' b' : Int, -200 ≤ p0 → p0 ≤ 200 → -200 ≤ p1 → p1 ≤ 200 → Q (.t [.int p0, .int p1]) ([.int a', .int b'] :: t)) : CallI (call Ps Gs wfL (k + 3)) 25 [.cell 0, .d (.int 200)] ([.int a, .int b] :: t) Q := by
  refine into rfl rfl ?_
  and_intros
  refine lc_inv (fun l c => ∃ u a b, l = [some (.w (.cell 0)), some (.i 200), u] ∧ [.int a, .int b] :: t = c) (fun x o => ∃ y, o = some y ∧ ∃ i : Int, y = .int i ∧ -200 ≤ i ∧ i ≤ 200) ⟨_, _, _, rfl, rfl⟩ ?turn ?last
  case turn =>
    rintro x hx l c ⟨u, a, b, rfl, rfl⟩
    and_intros
    refine roll_spec (by decide) (by decide) fun r a b h0 h1 => ?_
    and_intros
    refine roll_spec (by decide) (by decide) fun r2 a b h2 h3 => ?_
    and_intros
    refine some_int (p := fun i => -200 ≤ i ∧ i ≤ 200) ?_ (by simp) (by simp) fun v a b hv => ?_
    · intro x hx
      simp only [List.mem_cons, List.not_mem_nil, or_false] at hx
      rcases hx with rfl | rfl | rfl | rfl | rfl | rfl | rfl
      all_goals exact ⟨_, rfl, by omega, by omega⟩
    · and_intros
      exact ⟨⟨_, rfl, _, rfl, hv⟩, _, _, _, rfl, rfl⟩
  case last =>
    rintro xs l c hx ⟨u, a, b, rfl, rfl⟩
    obtain ⟨q1, q2⟩ := rel_all hx
    rw [rng_len] at q1
    obtain ⟨a', b', rfl, ha, hb⟩ := ints2 q1 q2
    and_intros
    exact h a' b' _ _ ha.1 ha.2 hb.1 hb.2
theorem lrow_spec {a b : Int} {m : Int} (h0 : 0 ≤ m) (h1 : m ≤ 5) (h : ∀ (r : List (Option Ik)) (a' b' : Int), (r.length : Int) = m → (∀ t ∈ r, ∀ k, t = some k → k.ok) → Q (.t (r.map tint)) ([.int a', .int b'] :: t)) : CallI (call Ps Gs wfL (k + 4)) 26 [.cell 0, .d (.int m)] ([.int a, .int b] :: t) Q := by
  refine into rfl rfl ?_
  and_intros
  · refine lc_inv (fun l c => ∃ u a b, l = [some (.w (.cell 0)), some (.i m), u] ∧ [.int a, .int b] :: t = c) (fun x o => ∃ y, o = some y ∧ ∃ o : Option Ik, y = tint o ∧ ∀ k, o = some k → k.ok) ⟨_, _, _, rfl, rfl⟩ ?turn ?last
    case turn =>
      rintro x hx l c ⟨u, a, b, rfl, rfl⟩
      and_intros
      refine links_spec fun c1 a b o1 => ?_
      and_intros
      refine links_spec fun c2 a b o2 => ?_
      and_intros
      refine some_spec (by simp) (by simp) fun x hx a b => ?_
      have hx : ∃ o : Option Ik, x = tint o ∧ ∀ k, o = some k → k.ok := by
        simp only [List.mem_cons, List.not_mem_nil, or_false] at hx
        rcases hx with rfl | rfl | rfl
        · exact ⟨none, rfl, by nofun⟩
        · exact ⟨some c1, rfl, fun k e => by cases e; exact o1⟩
        · exact ⟨some c2, rfl, fun k e => by cases e; exact o2⟩
      and_intros
      exact ⟨⟨_, rfl, hx⟩, _, _, _, rfl, rfl⟩
    case last =>
      rintro xs l c hx ⟨u, a, b, rfl, rfl⟩
      obtain ⟨q1, q2⟩ := rel_all hx
      rw [rng_len] at q1
      obtain ⟨r, rfl, hr⟩ := tints_of q2
      rw [List.length_map] at q1
      and_intros
      exact h _ _ _ (by omega) hr
  all_goals first | (rw [decide_eq_true_eq]; omega) | (rw [rng_len, decide_eq_true_eq]; omega)
theorem edge_of {s : PyData} (h : s ∈ [PyData.str "held", .str "again", .str "back"]) : ∃ e : Eg, s = .str e.s := by
  simp only [List.mem_cons, List.not_mem_nil, or_false] at h
  rcases h with rfl | rfl | rfl
  · exact ⟨.held, rfl⟩
  · exact ⟨.again, rfl⟩
  · exact ⟨.back, rfl⟩
theorem lpnt_spec {a b : Int} (h : ∀ (x : Pt) (a' b' : Int), Good x → Q (.w (.d x.d)) ([.int a', .int b'] :: t)) : CallI (call Ps Gs wfL (k + 5)) 27 [.cell 0, .d (.list [.str "plain", .str "slope", .str "slope", .str "slope", .str "rings", .str "rings", .str "tiles"])] ([.int a, .int b] :: t) Q := by
  refine into rfl rfl ?_
  and_intros
  refine some_spec (by simp) (by simp) fun x hx a b => ?_
  have hx : x = .str "plain" ∨ x = .str "slope" ∨ x = .str "rings" ∨ x = .str "tiles" := by
    simp only [List.mem_cons, List.not_mem_nil, or_false] at hx
    rcases hx with rfl | rfl | rfl | rfl | rfl | rfl | rfl <;> simp
  rcases hx with rfl | rfl | rfl | rfl
  · and_intros
    refine links_spec fun c a b o => ?_
    and_intros
    exact h (.plain c) _ _ (.plain o)
  · and_intros
    refine lpoint_spec fun p0 p1 a b a0 a1 a2 a3 => ?_
    and_intros
    refine some_spec (by simp) (by simp) fun eg heg a b => ?_
    obtain ⟨e, rfl⟩ := edge_of heg
    and_intros
    refine lpoint_spec fun q0 q1 a b b0 b1 b2 b3 => ?_
    and_intros
    have eqv : PyData.eqv (.tuple [.int q0, .int q1]) (.tuple [.int p0, .int p1]) = decide (q0 = p0 ∧ q1 = p1) := by
      simp only [PyData.eqv, PyData.eqvAll]
      rw [Bool.decide_and, Bool.and_true]
      rfl
    rw [eqv]
    refine k_ndec (fun e3 => ?_) (fun e3 => ?_)
    · and_intros
      refine links_spec fun c a b o1 => ?_
      and_intros
      refine links_spec fun d a b o2 => ?_
      and_intros
      exact h (.slope p0 p1 q0 q1 c d e) _ _ (.slope a0 a1 a2 a3 b0 b1 b2 b3 (by omega) o1 o2)
    · and_intros
      refine k_dec (fun c0 => ?_) (fun c0 => ?_)
      · and_intros
        refine links_spec fun c a b o1 => ?_
        and_intros
        refine links_spec fun d a b o2 => ?_
        and_intros
        exact h (.slope p0 p1 (p0 - 1) p1 c d e) _ _ (.slope a0 a1 a2 a3 (by omega) (by omega) a2 a3 (by omega) o1 o2)
      · and_intros
        refine links_spec fun c a b o1 => ?_
        and_intros
        refine links_spec fun d a b o2 => ?_
        and_intros
        exact h (.slope p0 p1 (p0 + 1) p1 c d e) _ _ (.slope a0 a1 a2 a3 (by omega) (by omega) a2 a3 (by omega) o1 o2)
  · and_intros
    refine lpoint_spec fun p0 p1 a b a0 a1 a2 a3 => ?_
    and_intros
    refine some_spec (by simp) (by simp) fun eg heg a b => ?_
    obtain ⟨e, rfl⟩ := edge_of heg
    and_intros
    refine roll_spec (by decide) (by decide) fun r a b r0 r1 => ?_
    and_intros
    refine some_int (p := fun i => 1 ≤ i ∧ i ≤ 200) ?_ (by simp) (by simp) fun v a b hv => ?_
    · intro x hx
      simp only [List.mem_cons, List.not_mem_nil, or_false] at hx
      rcases hx with rfl | rfl | rfl | rfl | rfl
      all_goals exact ⟨_, rfl, by omega, by omega⟩
    · and_intros
      refine links_spec fun c a b o1 => ?_
      and_intros
      refine links_spec fun d a b o2 => ?_
      and_intros
      exact h (.rings p0 p1 v c d e) _ _ (.rings a0 a1 a2 a3 hv.1 hv.2 o1 o2)
  · and_intros
    refine roll_spec (by decide) (by decide) fun r a b r0 r1 => ?_
    and_intros
    refine roll_spec (by decide) (by decide) fun r2 a b r20 r21 => ?_
    and_intros
    · refine lc_inv (fun l c => ∃ u a b, l = [some (.w (.cell 0)), some (.w (.d (.list [.str "plain", .str "slope", .str "slope", .str "slope", .str "rings", .str "rings", .str "tiles"]))), some (.w (.d (.str "tiles"))), none, some (.i (1 + r)), none, none, none, u] ∧ [.int a, .int b] :: t = c) (fun x o => ∃ y, o = some y ∧ ∃ row : List (Option Ik), y = .tuple (row.map tint) ∧ row.length = (1 + r).toNat ∧ ∀ t ∈ row, ∀ k, t = some k → k.ok) ⟨_, _, _, rfl, rfl⟩ ?turn ?last
      case turn =>
        rintro x hx l c ⟨u, a, b, rfl, rfl⟩
        and_intros
        refine lrow_spec (by omega) (by omega) fun xs a b x1 x2 => ?_
        and_intros
        exact ⟨⟨_, rfl, xs, rfl, by omega, x2⟩, _, _, _, rfl, rfl⟩
      case last =>
        rintro xs l c hx ⟨u, a, b, rfl, rfl⟩
        obtain ⟨q1, q2⟩ := rel_all hx
        rw [rng_len] at q1
        obtain ⟨rows, rfl, w1, w2⟩ := rows_of q2
        have q1 : rows.length = (1 + r2).toNat := by rw [← q1]; exact (List.length_map _).symm
        and_intros
        refine roll_spec (by decide) (by decide) fun r3 a b r30 r31 => ?_
        and_intros
        refine some_int (p := fun i => 1 ≤ i ∧ i ≤ 99) ?_ (by simp) (by simp) fun v a b hv => ?_
        · intro x hx
          simp only [List.mem_cons, List.not_mem_nil, or_false] at hx
          rcases hx with rfl | rfl | rfl | rfl | rfl
          all_goals exact ⟨_, rfl, by omega, by omega⟩
        · and_intros
          exact h (.tiles v rows) _ _ (.tiles (n := (1 + r).toNat) ⟨by omega, hv.2, by omega, by omega, by omega, by omega, w1, w2⟩)
    all_goals first | (rw [decide_eq_true_eq]; omega) | (rw [rng_len, decide_eq_true_eq]; omega)
end
section
variable {k : Nat} {st t : List Cell} {Q : R → List Cell → Prop}
abbrev lowB : Sts := .cons (.ite (.cmp .eq (.vb 4) (.int 0)) (.cons (.brk) (.nil)) (.nil)) (.cons (.par [3, 4] (.cons (.var 4) (.cons (.bin .sub (.vb 3) (.bin .mul (.bin .fdiv (.vb 3) (.vb 4)) (.vb 4))) (.nil)))) (.nil))
theorem low_end {T U V : Option R} {a : Int} {x : Int} {xs : List PyData} {QF : Fl → Sl → Cl → Prop} (h : ∀ V, QF .nx [T, U, V, some (.i a), some (.i 0)] st) : LoopI (turnF (call Ps Gs wfL k) Gs wfL (.v 2) lowB) (.int x :: xs) [T, U, V, some (.i a), some (.i 0)] st QF := by
  refine lp_c ?_
  and_intros
  exact h _
theorem low_step {T U V : Option R} {a c : Int} {x : Int} {xs : List PyData} {QF : Fl → Sl → Cl → Prop} (hc : 0 < c) (ba : B 5000 a) (hb : B 5000 c) (h : ∀ V, LoopI (turnF (call Ps Gs wfL k) Gs wfL (.v 2) lowB) xs [T, U, V, some (.i c), some (.i (a % c))] st QF) : LoopI (turnF (call Ps Gs wfL k) Gs wfL (.v 2) lowB) (.int x :: xs) [T, U, V, some (.i a), some (.i c)] st QF := by
  refine lp_c ?_
  and_intros
  refine k_dec (fun z => absurd z (Int.ne_of_gt hc)) (fun _ => ?_)
  and_intros
  · have e : a - a.fdiv c * c = a % c := by
      rw [Int.fdiv_eq_ediv_of_nonneg _ (Int.le_of_lt hc), Int.emod_def, Int.mul_comm]
    rw [e]
    exact h _
  · exact divOk_of hb (by decide) (Int.ne_of_gt hc)
  · exact mulOk_of (ba.fdiv hc) hb (by decide)
theorem low_loop {T U : Option R} {QF : Fl → Sl → Cl → Prop} : ∀ (m n : Nat) (lo a c : Int) (V : Option R), m ≤ 199 → B 5000 a → 0 ≤ a → 0 ≤ c → c < 2 ^ m → 2 * m + 1 ≤ n → (∀ V, QF .nx [T, U, V, some (.i (Int.gcd a c)), some (.i 0)] st) → LoopI (turnF (call Ps Gs wfL k) Gs wfL (.v 2) lowB) (rngD lo n) [T, U, V, some (.i a), some (.i c)] st QF
  | _, 0, _, _, _, _, _, _, _, _, _, hl, _ => by omega
  | m, n + 1, lo, a, c, V, hm, ba, ha, hc, hb, hl, h => by
    have big : B 5000 c := by
      have h1 : c.natAbs < 2 ^ m := by
        have e : ((2 ^ m : Nat) : Int) = 2 ^ m := by push_cast; rfl
        omega
      exact (show B m c from h1).mono (by omega)
    by_cases z : c = 0
    · subst z
      refine low_end ?_
      rw [Int.gcd_zero_right, Int.natAbs_of_nonneg ha] at h
      exact h
    · have hp : 0 < c := by omega
      refine low_step hp ba big fun V => ?_
      have r0 : 0 ≤ a % c := Int.emod_nonneg _ z
      have r1 : a % c < c := Int.emod_lt_of_pos _ hp
      have g1 : Int.gcd c (a % c) = Int.gcd a c := gcd_mod _ _
      cases m with
      | zero => simp at hb; omega
      | succ m =>
      cases n with
      | zero => omega
      | succ n =>
      by_cases z2 : a % c = 0
      · rw [z2]
        refine low_end ?_
        rw [← g1, z2, Int.gcd_zero_right, Int.natAbs_of_nonneg hc] at h
        exact h
      · have hp2 : 0 < a % c := by omega
        have br : B 5000 (a % c) := big.le (by omega)
        refine low_step hp2 big br fun V => ?_
        have s0 : 0 ≤ c % (a % c) := Int.emod_nonneg _ z2
        have g2 : Int.gcd (a % c) (c % (a % c)) = Int.gcd a c := (gcd_mod _ _).trans g1
        have hs : c % (a % c) < 2 ^ m := by
          have s1 : c % (a % c) < a % c := Int.emod_lt_of_pos _ hp2
          have pw : (2 : Int) ^ (m + 1) = 2 * 2 ^ m := by rw [Int.pow_succ, Int.mul_comm]
          by_cases d : a % c < 2 ^ m
          · omega
          · have q1 : 1 ≤ c / (a % c) := (Int.le_ediv_iff_mul_le hp2).mpr (by omega)
            have q2 := Int.emod_add_mul_ediv c (a % c)
            have q3 : (a % c) * 1 ≤ (a % c) * (c / (a % c)) := Int.mul_le_mul_of_nonneg_left q1 r0
            omega
        refine low_loop m n _ (a % c) (c % (a % c)) V (by omega) br r0 s0 hs (by omega) ?_
        rw [g2]
        exact h
termination_by m => m
theorem low_q {t b : Int} (hb : 0 < b) (bt : B 3000 t) (bb : B 199 b) (h : Q (rq (Rat.divInt t b)) st) : CallI (call Ps Gs wfL (k + 1)) 28 [.d (.int t), .d (.int b)] st Q := by
  refine into rfl rfl ?_
  and_intros
  have ha : (0 : Int) ≤ if t < 0 then -t else t := by split <;> omega
  have ba : B 5000 (if t < 0 then -t else t) := (ab_B bt).mono (by decide)
  refine low_loop 199 _ _ _ _ _ (by decide) ba ha (Int.le_of_lt hb) (by unfold B at bb; omega) (by decide) fun V => ?_
  have e : Int.gcd (if t < 0 then -t else t) b = Int.gcd t b := by
    split
    · exact Int.neg_gcd
    · rfl
  rw [e]
  have g := gcd_pos (t := t) hb
  have gb : (Int.gcd t b : Int) ≤ b := Int.gcd_le_right _ hb
  have dk : divOk (Int.gcd t b : Int) = true := divOk_of (j := 199) (bb.le (by omega)) (by decide) (Int.ne_of_gt g)
  have fe := fq_of (t := t) (b := b) (Int.ne_of_gt hb)
  rw [sgn_pos hb, Int.mul_one] at fe
  and_intros
  · unfold rq at h
    rw [← fe] at h
    exact h
  · exact dk
  · exact dk
end
end Xp


namespace Xp
open PySem
/-! places -/
theorem B_of {j : Nat} {a : Int} {n : Nat} (h : a.natAbs ≤ n) (l : n < 2 ^ j) : B j a := Nat.lt_of_le_of_lt h l
theorem sq_nn (a : Int) : 0 ≤ a * a := by
  rcases Int.le_total 0 a with h | h
  · exact Int.mul_nonneg h h
  · exact Int.mul_nonneg_of_nonpos_of_nonpos h h
theorem frac_cancel {e m n : Rat} (he : e ≠ 0) (hn : n ≠ 0) : (e * m) / (e * n) = m / n := by grind
theorem num_of (X : Rat) : (X.num : Rat) = X * (X.den : Rat) := by
  have h1 : X = (X.num : Rat) / (X.den : Rat) := by
    have := Rat.num_divInt_den X
    rw [Rat.divInt_eq_div] at this
    exact_mod_cast this.symm
  have d1 : (X.den : Rat) ≠ 0 := by exact_mod_cast X.den_nz
  generalize (X.num : Rat) = a at *
  generalize (X.den : Rat) = b at *
  grind
theorem moved_eq {X t : Rat} {x : Int} : Rat.divInt (X.num * t.den + x * t.num * X.den) ((X.den : Int) * t.den) = X + (x : Rat) * t := by
  have d1 : (X.den : Rat) ≠ 0 := by exact_mod_cast X.den_nz
  have d2 : (t.den : Rat) ≠ 0 := by exact_mod_cast t.den_nz
  rw [Rat.divInt_eq_div]
  push_cast
  rw [num_of X, num_of t]
  generalize (X.den : Rat) = b at *
  generalize (t.den : Rat) = d at *
  grind
theorem share_eq {X Y : Rat} {p0 p1 q0 q1 : Int} (hn : (q0 - p0) * (q0 - p0) + (q1 - p1) * (q1 - p1) ≠ 0) : Rat.divInt ((X.num * Y.den - p0 * ((X.den : Int) * Y.den)) * (q0 - p0) + (Y.num * X.den - p1 * ((X.den : Int) * Y.den)) * (q1 - p1)) ((X.den : Int) * Y.den * ((q0 - p0) * (q0 - p0) + (q1 - p1) * (q1 - p1))) = wayS p0 p1 q0 q1 X Y := by
  have d1 : (X.den : Rat) ≠ 0 := by exact_mod_cast X.den_nz
  have d2 : (Y.den : Rat) ≠ 0 := by exact_mod_cast Y.den_nz
  have d3 : (((q0 - p0) * (q0 - p0) + (q1 - p1) * (q1 - p1) : Int) : Rat) ≠ 0 := by exact_mod_cast hn
  have dd : (X.den : Rat) * (Y.den : Rat) ≠ 0 := by grind
  unfold wayS
  rw [Rat.divInt_eq_div, ← frac_cancel dd d3]
  congr 1
  · push_cast
    rw [num_of X, num_of Y]
    grind
  · push_cast
    rfl
section
variable {k : Nat} {st t : List Cell} {Q : R → List Cell → Prop}
theorem number_q {a b : Int} (h : ∀ (q : Rat) (a' b' : Int), Hq 30 q → Q (rq q) ([.int a', .int b'] :: t)) : CallI (call Ps Gs wfL (k + 3)) 29 [.cell 0] ([.int a, .int b] :: t) Q := by
  refine into rfl rfl ?_
  and_intros
  refine roll_spec (by decide) (by decide) fun r1 a b r10 r11 => ?_
  and_intros
  refine roll_spec (by decide) (by decide) fun r2 a b r20 r21 => ?_
  and_intros
  have hr2 : r2 < 1000000 := r21
  refine some_int (p := fun i => 1 ≤ i ∧ i ≤ 1000000) ?_ (by simp) (by simp) fun m a b hm => ?_
  · intro x hx
    simp only [List.mem_cons, List.not_mem_nil, or_false] at hx
    rcases hx with rfl | rfl | rfl | rfl | rfl | rfl | rfl
    all_goals exact ⟨_, rfl, by omega, by omega⟩
  obtain ⟨m0, m1⟩ := hm
  have bm : B 20 m := by unfold B; omega
  and_intros
  refine roll_spec (by decide) (by decide) fun r3 a b r30 r31 => ?_
  and_intros
  refine k_dec (fun c0 => ?_) (fun c0 => ?_)
  · and_intros
    refine roll_spec (by decide) (by decide) fun r4 a b r40 r41 => ?_
    have b4 : B 10 (r4 - 400) := by unfold B; omega
    and_intros
    · refine roll_spec (by omega) (by omega) fun r5 a b r50 r51 => ?_
      have b5 : B 20 r5 := by unfold B; omega
      have bt : B 31 ((r4 - 400) * m + r5) := (b4.mulp bm).addp b5 (by decide) (by decide)
      have bt2 : B 30 ((r4 - 400) * m + r5) := by
        have h1 : ((r4 - 400) * m).natAbs ≤ 400 * 1000000 := by
          rw [Int.natAbs_mul]
          exact Nat.mul_le_mul (by omega) (by omega)
        unfold B
        omega
      and_intros
      refine low_q (by omega) (bt.mono (by decide)) (bm.mono (by decide)) ?_
      and_intros
      exact h _ _ _ (Hq.of (by omega) bt2 (bm.mono (by decide)))
    · exact mulOk_of b4 bm (by decide)
  · and_intros
    · have bt2 : B 30 (400 * m) := by unfold B; omega
      refine low_q (by omega) (bt2.mono (by decide)) (bm.mono (by decide)) ?_
      and_intros
      exact h _ _ _ (Hq.of (by omega) bt2 (bm.mono (by decide)))
    all_goals exact mulOk_of (j := 10) (by unfold B; decide) bm (by decide)
theorem place_q {a b : Int} (h : ∀ (X Y : Rat) (a' b' : Int), Hq 30 X → Hq 30 Y → Q (.t [fq X, fq Y]) ([.int a', .int b'] :: t)) : CallI (call Ps Gs wfL (k + 4)) 30 [.cell 0] ([.int a, .int b] :: t) Q := by
  refine into rfl rfl ?_
  and_intros
  refine number_q fun X a b hX => ?_
  and_intros
  refine number_q fun Y a b hY => ?_
  and_intros
  exact h X Y _ _ hX hY
theorem moved_q {X Y u : Rat} {x y : Int} {i j : Nat} (hX : Hq i X) (hY : Hq i Y) (hu : Hq j u) (hij : i + j ≤ 190) (hx : B 16 x) (hy : B 16 y) (h : Q (.t [fq (X + (x : Rat) * u), fq (Y + (y : Rat) * u)]) st) : CallI (call Ps Gs wfL (k + 2)) 32 [.d (.tuple [fq X, fq Y]), .d (fq u), .d (.int x), .d (.int y)] st Q := by
  refine into rfl rfl ?_
  and_intros
  refine lp_c ?_
  have bx : B 300 (X.num * u.den + x * u.num * X.den) := ((hX.n.mulp hu.d).addp ((hx.mulp hu.n).mulp hX.d) (by omega) (by omega)).mono (Nat.le_refl 300)
  have by' : B 300 (Y.num * u.den + y * u.num * Y.den) := ((hY.n.mulp hu.d).addp ((hy.mulp hu.n).mulp hY.d) (by omega) (by omega)).mono (Nat.le_refl 300)
  have bX : B 200 X.num := hX.n.mono' (by omega)
  have bXd : B 200 (X.den : Int) := hX.d.mono' (by omega)
  have bY : B 200 Y.num := hY.n.mono' (by omega)
  have bYd : B 200 (Y.den : Int) := hY.d.mono' (by omega)
  have bu : B 200 u.num := hu.n.mono' (by omega)
  have bud : B 200 (u.den : Int) := hu.d.mono' (by omega)
  and_intros
  · refine low_q (Int.mul_pos den_pos den_pos) (bx.mono (by decide)) ((hX.d.mulp hu.d).mono' (by omega)) ?_
    rw [moved_eq]
    and_intros
    refine lp_c ?_
    and_intros
    · refine low_q (Int.mul_pos den_pos den_pos) (by'.mono (by decide)) ((hY.d.mulp hu.d).mono' (by omega)) ?_
      rw [moved_eq]
      and_intros
      exact h
    · exact mulOk_of bY bud (by decide)
    · exact mulOk_of hy bu (by decide)
    · exact mulOk_of (hy.mulp bu) bYd (by decide)
    · exact mulOk_of bYd bud (by decide)
  · exact mulOk_of bX bud (by decide)
  · exact mulOk_of hx bu (by decide)
  · exact mulOk_of (hx.mulp bu) bXd (by decide)
  · exact mulOk_of bXd bud (by decide)
theorem share_q {X Y : Rat} {p0 p1 q0 q1 : Int} {x0 x3 x4 x5 : PyData} (hX : Hq 40 X) (hY : Hq 40 Y) (h0 : B 10 p0) (h1 : B 10 p1) (h2 : B 10 q0) (h3 : B 10 q1) (hn : (q0 - p0) * (q0 - p0) + (q1 - p1) * (q1 - p1) ≠ 0) (h : Q (rq (wayS p0 p1 q0 q1 X Y)) st) : CallI (call Ps Gs wfL (k + 2)) 34 [.d (.tuple [x0, .tuple [.int p0, .int p1], .tuple [.int q0, .int q1], x3, x4, x5]), .d (.tuple [fq X, fq Y])] st Q := by
  refine into rfl rfl ?_
  have bx : B 11 (q0 - p0) := by unfold B at *; omega
  have by' : B 11 (q1 - p1) := by unfold B at *; omega
  have bn : B 23 ((q0 - p0) * (q0 - p0) + (q1 - p1) * (q1 - p1)) := (bx.mulp bx).addp (by'.mulp by') (by decide) (by decide)
  have bb : B 80 ((X.den : Int) * Y.den) := hX.d.mulp hY.d
  have br : B 92 (X.num * Y.den - p0 * ((X.den : Int) * Y.den)) := by
    have := (hX.n.mulp hY.d).addp ((h0.mulp bb).neg') (by decide : _ < 92) (by decide)
    rwa [← Int.sub_eq_add_neg] at this
  have bd : B 92 (Y.num * X.den - p1 * ((X.den : Int) * Y.den)) := by
    have := (hY.n.mulp hX.d).addp ((h1.mulp bb).neg') (by decide : _ < 92) (by decide)
    rwa [← Int.sub_eq_add_neg] at this
  have np : 0 < (q0 - p0) * (q0 - p0) + (q1 - p1) * (q1 - p1) := by
    have a1 : 0 ≤ (q0 - p0) * (q0 - p0) := sq_nn _
    have a2 : 0 ≤ (q1 - p1) * (q1 - p1) := sq_nn _
    omega
  and_intros
  · refine low_q (Int.mul_pos (Int.mul_pos den_pos den_pos) np) (((br.mulp bx).addp (bd.mulp by') (by decide : _ < 110) (by decide)).mono (by decide)) ((bb.mulp bn).mono (by decide)) ?_
    rw [share_eq hn]
    and_intros
    exact h
  all_goals first
    | exact mulOk_of hX.d hY.d (by decide)
    | exact mulOk_of hX.n hY.d (by decide)
    | exact mulOk_of hY.n hX.d (by decide)
    | exact mulOk_of h0 bb (by decide)
    | exact mulOk_of h1 bb (by decide)
    | exact mulOk_of br bx (by decide)
    | exact mulOk_of bd by' (by decide)
    | exact mulOk_of bx bx (by decide)
    | exact mulOk_of by' by' (by decide)
    | exact mulOk_of bb bn (by decide)
end
end Xp


namespace Xp
open PySem
section
variable {k : Nat} {st t : List Cell} {Q : R → List Cell → Prop}
theorem near_q {x : Pt} {a b : Int} (hg : Good x) (h : ∀ (X Y : Rat) (a' b' : Int), Hq 30 X → Hq 30 Y → Q (.t [fq X, fq Y]) ([.int a', .int b'] :: t)) : CallI (call Ps Gs wfL (k + 5)) 31 [.cell 0, .d x.d] ([.int a, .int b] :: t) Q := by
  cases hg with
  | @plain c hc =>
    refine into rfl rfl ?_
    and_intros
    refine place_q fun X Y a b hX hY => ?_
    and_intros
    exact h X Y _ _ hX hY
  | _ =>
    refine into_run rfl rfl ?_
    and_intros
    refine run_cut 4 (fun l c => ∃ (v : PyData) (b0 b1 step : Int), -200 ≤ b0 ∧ b0 ≤ 200 ∧ -200 ≤ b1 ∧ b1 ≤ 200 ∧ 0 ≤ step ∧ step ≤ 800 ∧ l = [some (.w (.cell 0)), some (.w (.d v)), some (.w (.d (.tuple [.int b0, .int b1]))), some (.i step), none] ∧ c = [.int a, .int b] :: t) ?_ ?_
    · and_intros
      first
      | exact ⟨_, _, _, _, by omega, by omega, by omega, by omega, by omega, by omega, rfl, rfl⟩
      | (rename_i ht
         have := ht.s0
         have := ht.s1
         exact ⟨_, _, _, _, by omega, by omega, by omega, by omega, by omega, by omega, rfl, rfl⟩)
    · rintro l c ⟨v, b0, b1, step, h1, h2, h3, h4, h5, h6, rfl, rfl⟩
      refine run_all ?_
      have bs : B 10 step := by unfold B; omega
      have key : ∀ (p r o : Int), -200 ≤ p → p ≤ 200 → 0 ≤ r → r < 13 → -1 ≤ o → o ≤ 1 → B 30 (2 * p + step * (r - 6) + o) := fun p r o p0 p1 r0 r1 o0 o1 => by
        have : (step * (r - 6)).natAbs ≤ 800 * 6 := by
          rw [Int.natAbs_mul]
          exact Nat.mul_le_mul (by omega) (by omega)
        unfold B
        omega
      have br : ∀ r : Int, 0 ≤ r → r < 13 → B 10 (r - 6) := fun r r0 r1 => by unfold B; omega
      have bp : ∀ p : Int, -200 ≤ p → p ≤ 200 → B 10 p := fun p r0 r1 => by unfold B; omega
      have pick : ∀ x ∈ [PyData.int 0, .int 0, .int 1, .int (-1)], ∃ v : Int, x = .int v ∧ (-1 ≤ v ∧ v ≤ 1) := by
        intro x hx
        simp only [List.mem_cons, List.not_mem_nil, or_false] at hx
        rcases hx with rfl | rfl | rfl | rfl
        all_goals exact ⟨_, rfl, by omega, by omega⟩
      and_intros
      refine lc_c ?_
      and_intros
      · refine roll_spec (by decide) (by decide) fun r1 a b r10 r11 => ?_
        and_intros
        · refine some_int pick (by simp) (by simp) fun o1 a b ho1 => ?_
          and_intros
          have k1 := key b0 r1 o1 h1 h2 r10 r11 ho1.1 ho1.2
          refine low_q (by decide) (k1.mono (by decide)) (by unfold B; decide) ?_
          and_intros
          refine lc_c ?_
          and_intros
          · refine roll_spec (by decide) (by decide) fun r2 a b r20 r21 => ?_
            and_intros
            · refine some_int pick (by simp) (by simp) fun o2 a b ho2 => ?_
              and_intros
              have k2 := key b1 r2 o2 h3 h4 r20 r21 ho2.1 ho2.2
              refine low_q (by decide) (k2.mono (by decide)) (by unfold B; decide) ?_
              and_intros
              refine lc_n ?_
              and_intros
              exact h _ _ _ _ (Hq.of (by decide) k1 (by unfold B; decide)) (Hq.of (by decide) k2 (by unfold B; decide))
            · exact mulOk_of bs (br _ r20 r21) (by decide)
          all_goals exact mulOk_of (j := 3) (by unfold B; decide) (bp _ h3 h4) (by decide)
        · exact mulOk_of bs (br _ r10 r11) (by decide)
      all_goals exact mulOk_of (j := 3) (by unfold B; decide) (bp _ h1 h2) (by decide)
end
end Xp


namespace Xp
open PySem
theorem floor_of {q : Rat} {n : Int} (h0 : (n : Rat) ≤ q) (h1 : q < (n : Rat) + 1) : q.floor = n := by
  have a := Rat.floor_le q
  have b := Rat.lt_floor_add_one q
  have c : ((q.floor : Int) : Rat) < ((n + 1 : Int) : Rat) := by push_cast; grind
  have d : ((n : Int) : Rat) < ((q.floor + 1 : Int) : Rat) := by push_cast; grind
  have c' : q.floor < n + 1 := by exact_mod_cast c
  have d' : n < q.floor + 1 := by exact_mod_cast d
  omega
theorem floor_add {q : Rat} {m : Int} : (q + (m : Rat)).floor = q.floor + m := by
  have a := Rat.floor_le q
  have b := Rat.lt_floor_add_one q
  refine floor_of ?_ ?_
  · push_cast; grind
  · push_cast at b ⊢; grind
theorem again_add {w : Rat} {m : Int} : broughtQ .again (w + (m : Rat)) = broughtQ .again w := by
  show w + (m : Rat) - ((w + (m : Rat)).floor : Rat) = w - (w.floor : Rat)
  rw [floor_add]
  push_cast
  grind
theorem rest_add {w : Rat} {m : Int} : restQ (w + ((2 * m : Int) : Rat)) = restQ w := by
  unfold restQ
  have e : (w + ((2 * m : Int) : Rat)) / ((2 : Int) : Rat) = w / ((2 : Int) : Rat) + (m : Rat) := by
    push_cast
    grind
  rw [e, floor_add]
  push_cast
  grind
theorem back_add {w : Rat} {m : Int} : broughtQ .back (w + ((2 * m : Int) : Rat)) = broughtQ .back w := by
  show (if restQ (w + ((2 * m : Int) : Rat)) ≤ 1 then restQ (w + ((2 * m : Int) : Rat)) else ((2 : Int) : Rat) - restQ (w + ((2 * m : Int) : Rat))) = (if restQ w ≤ 1 then restQ w else ((2 : Int) : Rat) - restQ w)
  rw [rest_add]
theorem rest_range {w : Rat} : 0 ≤ restQ w ∧ restQ w < 2 := by
  have a := Rat.floor_le (w / ((2 : Int) : Rat))
  have b := Rat.lt_floor_add_one (w / ((2 : Int) : Rat))
  unfold restQ
  push_cast at a b ⊢
  generalize ((w / 2).floor : Rat) = f at *
  constructor <;> grind
theorem rest_neg {w : Rat} : restQ (-w) = if restQ w = 0 then 0 else 2 - restQ w := by
  have a := Rat.floor_le (w / ((2 : Int) : Rat))
  have b := Rat.lt_floor_add_one (w / ((2 : Int) : Rat))
  by_cases z : restQ w = 0
  · rw [if_pos z]
    unfold restQ at z ⊢
    have e : ((-w) / ((2 : Int) : Rat)).floor = - (w / ((2 : Int) : Rat)).floor := by
      refine floor_of ?_ ?_
      · push_cast at *
        grind
      · push_cast at *
        grind
    rw [e]
    push_cast at *
    grind
  · rw [if_neg z]
    have r := rest_range (w := w)
    unfold restQ at z r ⊢
    have e : ((-w) / ((2 : Int) : Rat)).floor = - (w / ((2 : Int) : Rat)).floor - 1 := by
      refine floor_of ?_ ?_
      · push_cast at *
        grind
      · push_cast at *
        grind
    rw [e]
    push_cast at *
    grind
theorem back_neg {w : Rat} : broughtQ .back (-w) = broughtQ .back w := by
  show (if restQ (-w) ≤ 1 then restQ (-w) else ((2 : Int) : Rat) - restQ (-w)) = (if restQ w ≤ 1 then restQ w else ((2 : Int) : Rat) - restQ w)
  rw [rest_neg]
  have r := rest_range (w := w)
  have e2 : ((2 : Int) : Rat) = 2 := rfl
  rw [e2]
  generalize restQ w = v at *
  split
  · grind
  · split <;> split <;> grind
theorem held_big {w v : Rat} (hw : 1 ≤ w) (hv : 1 ≤ v) : broughtQ .held w = broughtQ .held v := by
  have : ∀ w : Rat, 1 ≤ w → broughtQ .held w = 1 := fun w h => by
    show (if w < 0 then ((0 : Int) : Rat) else if 1 < w then 1 else w) = 1
    split
    · grind
    · split <;> grind
  rw [this w hw, this v hv]
theorem brought_range {e : Eg} {w : Rat} : 0 ≤ broughtQ e w ∧ broughtQ e w ≤ 1 := by
  cases e with
  | held =>
    show 0 ≤ (if w < 0 then ((0 : Int) : Rat) else if 1 < w then 1 else w) ∧ (if w < 0 then ((0 : Int) : Rat) else if 1 < w then 1 else w) ≤ 1
    have e0 : ((0 : Int) : Rat) = 0 := rfl
    rw [e0]
    split
    · grind
    · split <;> grind
  | again =>
    have a := Rat.floor_le w
    have b := Rat.lt_floor_add_one w
    show 0 ≤ w - (w.floor : Rat) ∧ w - (w.floor : Rat) ≤ 1
    push_cast at b
    constructor <;> grind
  | back =>
    have r := rest_range (w := w)
    show 0 ≤ (if restQ w ≤ 1 then restQ w else ((2 : Int) : Rat) - restQ w) ∧ (if restQ w ≤ 1 then restQ w else ((2 : Int) : Rat) - restQ w) ≤ 1
    have e2 : ((2 : Int) : Rat) = 2 := rfl
    rw [e2]
    split <;> grind
end Xp


namespace Xp
open PySem
def absI (a : Int) : Int := if a < 0 then -a else a
def maxI (a b : Int) : Int := if b > a then b else a
theorem abs_nn (a : Int) : 0 ≤ absI a := by unfold absI; split <;> omega
theorem max_nn {a b : Int} (h : 0 ≤ a) (l : 0 ≤ b) : 0 ≤ maxI a b := by unfold maxI; split <;> omega
theorem aq_mul {u b : Rat} {R : Int} (hb : 0 < b) (h : (R : Rat) = u * b) : ((absI R : Int) : Rat) = aq u * b := by
  unfold absI aq
  by_cases hu : u < 0
  · have p : 0 < (-u) * b := Rat.mul_pos (by grind) hb
    have hR : (R : Rat) < ((0 : Int) : Rat) := by
      rw [h]
      show u * b < 0
      grind
    have hR' : R < 0 := by exact_mod_cast hR
    rw [if_pos hu, if_pos hR']
    push_cast
    rw [h]
    grind
  · have p : 0 ≤ u * b := Rat.mul_nonneg (by grind) (by grind)
    have hR : ((0 : Int) : Rat) ≤ (R : Rat) := by
      rw [h]
      exact p
    have hR' : 0 ≤ R := by exact_mod_cast hR
    rw [if_neg hu, if_neg (by omega)]
    exact h
theorem max_mul {A B b : Rat} {P S : Int} (hb : 0 < b) (hP : (P : Rat) = A * b) (hS : (S : Rat) = B * b) : ((maxI P S : Int) : Rat) = (if A < B then B else A) * b := by
  unfold maxI
  by_cases h : A < B
  · have p : 0 < (B - A) * b := Rat.mul_pos (by grind) hb
    have q : (P : Rat) < (S : Rat) := by rw [hP, hS]; grind
    have q' : P < S := by exact_mod_cast q
    rw [if_pos h, if_pos q', hS]
  · have p : 0 ≤ (A - B) * b := Rat.mul_nonneg (by grind) (by grind)
    have q : (S : Rat) ≤ (P : Rat) := by rw [hP, hS]; grind
    have q' : S ≤ P := by exact_mod_cast q
    rw [if_neg h, if_neg (by omega), hP]
/-- how far out, by the rings' widths -/
theorem wayR_mul {p0 p1 s R D : Int} {X Y b : Rat} (hs : 0 < s) (hb : 0 < b) (hR : (R : Rat) = (X - (p0 : Rat)) * b) (hD : (D : Rat) = (Y - (p1 : Rat)) * b) : ((maxI (absI R) (absI D) : Int) : Rat) = wayR p0 p1 s X Y * ((s : Rat) * b) := by
  have s0 : (0 : Rat) < (s : Rat) := by exact_mod_cast hs
  rw [max_mul hb (aq_mul hb hR) (aq_mul hb hD)]
  unfold wayR
  generalize (if aq (X - (p0 : Rat)) < aq (Y - (p1 : Rat)) then aq (Y - (p1 : Rat)) else aq (X - (p0 : Rat))) = m
  generalize (s : Rat) = s at *
  grind
theorem far_eq {p0 p1 s : Int} {X Y : Rat} (hs : 0 < s) : ((maxI (absI (X.num * Y.den - p0 * ((X.den : Int) * Y.den))) (absI (Y.num * X.den - p1 * ((X.den : Int) * Y.den))) : Int) : Rat) = wayR p0 p1 s X Y * ((s : Rat) * (((X.den : Int) * Y.den : Int) : Rat)) := by
  have hb : (0 : Rat) < (((X.den : Int) * Y.den : Int) : Rat) := by exact_mod_cast Int.mul_pos den_pos den_pos
  refine wayR_mul hs hb ?_ ?_
  · push_cast
    rw [num_of X]
    grind
  · push_cast
    rw [num_of Y]
    grind
theorem at_eq {p x B : Int} (hB : 0 < B) : (x : Rat) = (Rat.divInt (p * B + x) B - (p : Rat)) * (B : Rat) := by
  have b0 : (B : Rat) ≠ 0 := by
    intro z
    have : B = 0 := by exact_mod_cast z
    omega
  rw [Rat.divInt_eq_div]
  push_cast
  generalize (B : Rat) = b at *
  grind
theorem wayR_at {p0 p1 s x y B F m : Int} (hs : 0 < s) (hB : 0 < B) (hm : 0 < m) (hF : maxI (absI x) (absI y) = F * m) : wayR p0 p1 s (Rat.divInt (p0 * (B * m) + x) (B * m)) (Rat.divInt (p1 * (B * m) + y) (B * m)) * ((s : Rat) * (B : Rat)) = (F : Rat) := by
  have hBm : 0 < B * m := Int.mul_pos hB hm
  have hb : (0 : Rat) < ((B * m : Int) : Rat) := by exact_mod_cast hBm
  have e := wayR_mul (p0 := p0) (p1 := p1) (s := s) hs hb (at_eq (p := p0) (x := x) hBm) (at_eq (p := p1) (x := y) hBm)
  rw [hF] at e
  have m0 : (m : Rat) ≠ 0 := by
    intro z
    have : m = 0 := by exact_mod_cast z
    omega
  generalize wayR p0 p1 s (Rat.divInt (p0 * (B * m) + x) (B * m)) (Rat.divInt (p1 * (B * m) + y) (B * m)) = w at *
  push_cast at e
  generalize (B : Rat) = B at *
  generalize (m : Rat) = m at *
  generalize (F : Rat) = F at *
  generalize (s : Rat) = s at *
  grind
theorem max_side {F m r : Int} (hF : 0 ≤ F) (hm : 0 < m) (r0 : 0 ≤ r) (r1 : r ≤ m) :
    maxI (absI (F * m)) (absI (F * (2 * r - m))) = F * m ∧ maxI (absI (-(F * m))) (absI (F * (2 * r - m))) = F * m ∧ maxI (absI (F * (2 * r - m))) (absI (F * m)) = F * m ∧ maxI (absI (F * (2 * r - m))) (absI (-(F * m))) = F * m := by
  have h0 : 0 ≤ F * m := Int.mul_nonneg hF (Int.le_of_lt hm)
  have h1 : F * (2 * r - m) ≤ F * m := Int.mul_le_mul_of_nonneg_left (by omega) hF
  have h2 : F * (-m) ≤ F * (2 * r - m) := Int.mul_le_mul_of_nonneg_left (by omega) hF
  rw [Int.mul_neg] at h2
  generalize F * m = a at *
  generalize F * (2 * r - m) = c at *
  unfold maxI absI
  refine ⟨?_, ?_, ?_, ?_⟩ <;> (split <;> split <;> split <;> omega)
theorem way_cancel {w v : Rat} {c : Rat} (hc : 0 < c) (h : w * c = v * c) : w = v := by
  have : c ≠ 0 := by grind
  grind
section
variable {k : Nat} {st t : List Cell} {Q : R → List Cell → Prop}
theorem rings_q {X Y : Rat} {p0 p1 s : Int} {c d : Ik} {e : Eg} {a bb_ : Int} (hX : Hq 30 X) (hY : Hq 30 Y) (h0 : -200 ≤ p0) (h1 : p0 ≤ 200) (h2 : -200 ≤ p1) (h3 : p1 ≤ 200) (s0 : 1 ≤ s) (s1 : s ≤ 200)
    (h : ∀ (X' Y' : Rat) (a' b' : Int), Hq 100 X' → Hq 100 Y' → broughtQ e (wayR p0 p1 s X' Y') = broughtQ e (wayR p0 p1 s X Y) → Q (.t [fq X', fq Y']) ([.int a', .int b'] :: t)) : CallI (call Ps Gs wfL (k + 3)) 33 [.cell 0, .d (Pt.rings p0 p1 s c d e).d, .d (.tuple [fq X, fq Y])] ([.int a, .int bb_] :: t) Q := by
  have bp0 : B 10 p0 := by unfold B; omega
  have bp1 : B 10 p1 := by unfold B; omega
  have bs : B 10 s := by unfold B; omega
  have bb : B 60 ((X.den : Int) * Y.den) := hX.d.mulp hY.d
  have b0 : 0 < (X.den : Int) * Y.den := Int.mul_pos den_pos den_pos
  have bR : B 72 (X.num * Y.den - p0 * ((X.den : Int) * Y.den)) := by
    have := (hX.n.mulp hY.d).addp ((bp0.mulp bb).neg') (by decide : _ < 72) (by decide)
    rwa [← Int.sub_eq_add_neg] at this
  have bD : B 72 (Y.num * X.den - p1 * ((X.den : Int) * Y.den)) := by
    have := (hY.n.mulp hX.d).addp ((bp1.mulp bb).neg') (by decide : _ < 72) (by decide)
    rwa [← Int.sub_eq_add_neg] at this
  have hfar := far_eq (p0 := p0) (p1 := p1) (s := s) (X := X) (Y := Y) (by omega)
  refine into_run rfl rfl ?_
  and_intros
  refine run_cut 4 (fun l c' => ∃ (F0 b : Int) (u4 u5 : Option R), 0 ≤ F0 ∧ B 72 F0 ∧ 0 < b ∧ B 60 b ∧ (F0 : Rat) = wayR p0 p1 s X Y * ((s : Rat) * (b : Rat)) ∧ l = [some (.w (.cell 0)), some (.w (.d (Pt.rings p0 p1 s c d e).d)), some (.w (.d (.tuple [fq X, fq Y]))), some (.i b), u4, u5, none, some (.i F0), some (.i (s * b)), none, none, none] ∧ [PyData.int a, PyData.int bb_] :: t = c') ?_ ?_
  · and_intros
    · refine ⟨_, _, _, _, max_nn (abs_nn _) (abs_nn _), ?_, b0, bb, hfar, rfl, rfl⟩
      have a1 : B 72 (absI (X.num * Y.den - p0 * ((X.den : Int) * Y.den))) := ab_B bR
      have a2 : B 72 (absI (Y.num * X.den - p1 * ((X.den : Int) * Y.den))) := ab_B bD
      unfold maxI
      split
      · exact a2
      · exact a1
    all_goals first
      | exact mulOk_of hX.d hY.d (by decide)
      | exact mulOk_of hX.n hY.d (by decide)
      | exact mulOk_of hY.n hX.d (by decide)
      | exact mulOk_of bp0 bb (by decide)
      | exact mulOk_of bp1 bb (by decide)
      | exact mulOk_of bs bb (by decide)
  rintro l c' ⟨F0, bt, u4, u5, f0, f1, b1, b2, fe, rfl, rfl⟩
  have S0 : 0 < s * bt := Int.mul_pos (by omega) b1
  have bS : B 70 (s * bt) := (bs.mulp b2)
  have sb0 : (0 : Rat) < (s : Rat) * (bt : Rat) := by exact_mod_cast S0
  refine run_cut 3 (fun l c' => ∃ (F : Int) (v : Rat) (a bb_ : Int) (u4 u5 : Option R), 0 ≤ F ∧ B 76 F ∧ (F : Rat) = v * ((s : Rat) * (bt : Rat)) ∧ broughtQ e v = broughtQ e (wayR p0 p1 s X Y) ∧ l = [some (.w (.cell 0)), some (.w (.d (Pt.rings p0 p1 s c d e).d)), some (.w (.d (.tuple [fq X, fq Y]))), some (.i bt), u4, u5, none, some (.i F), some (.i (s * bt)), none, none, none] ∧ [PyData.int a, PyData.int bb_] :: t = c') ?_ ?_
  · cases e with
    | again =>
      and_intros
      refine roll_spec (by decide) (by decide) fun r a b r0 r1 => ?_
      have br : B 3 r := by unfold B; omega
      have p : 0 ≤ s * bt * r := Int.mul_nonneg (Int.le_of_lt S0) r0
      and_intros
      · refine ⟨F0 + s * bt * r, wayR p0 p1 s X Y + (r : Rat), a, b, _, _, by omega, (f1.addp (bS.mulp br) (by decide : _ < 76) (by decide)), ?_, again_add, rfl, rfl⟩
        push_cast
        rw [fe]
        grind
      · exact mulOk_of bS br (by decide)
    | back =>
      have fin2 : ∀ (F1 r : Int) (v1 : Rat), 0 ≤ F1 → B 73 F1 → 0 ≤ r → r < 2 → (F1 : Rat) = v1 * ((s : Rat) * (bt : Rat)) → broughtQ .back v1 = broughtQ .back (wayR p0 p1 s X Y) → 0 ≤ F1 + 2 * (s * bt) * r ∧ B 76 (F1 + 2 * (s * bt) * r) ∧ ((F1 + 2 * (s * bt) * r : Int) : Rat) = (v1 + ((2 * r : Int) : Rat)) * ((s : Rat) * (bt : Rat)) ∧ broughtQ .back (v1 + ((2 * r : Int) : Rat)) = broughtQ .back (wayR p0 p1 s X Y) := fun F1 r v1 g0 g1 r0 r1 g2 g3 => by
        have p : 0 ≤ 2 * (s * bt) * r := Int.mul_nonneg (by omega) r0
        have br : B 2 r := by unfold B; omega
        have b2S : B 72 (2 * (s * bt)) := by
          have := bS
          unfold B at *
          omega
        refine ⟨by omega, (g1.addp (b2S.mulp br) (by decide : _ < 76) (by decide)), ?_, by rw [back_add]; exact g3⟩
        push_cast
        rw [g2]
        grind
      have b2S : B 72 (2 * (s * bt)) := by
        have := bS
        unfold B at *
        omega
      and_intros
      · refine k_dec (fun c1 => ?_) (fun c1 => ?_)
        · and_intros
          refine roll_spec (by decide) (by decide) fun r a b r0 r1 => ?_
          and_intros
          refine k_dec (fun c2 => ?_) (fun c2 => ?_)
          · and_intros
            · refine roll_spec (by decide) (by decide) fun r2 a b r20 r21 => ?_
              and_intros
              · have g1 : B 73 (2 * (s * bt) - F0) := by
                  have := b2S
                  unfold B at *
                  omega
                obtain ⟨k1, k2, k3, k4⟩ := fin2 (2 * (s * bt) - F0) r2 (((2 * 1 : Int) : Rat) - wayR p0 p1 s X Y) (by omega) g1 r20 r21 (by push_cast; rw [fe]; grind) (by
                  rw [show ((2 * 1 : Int) : Rat) - wayR p0 p1 s X Y = -wayR p0 p1 s X Y + ((2 * 1 : Int) : Rat) by grind, back_add, back_neg])
                exact ⟨_, _, _, _, _, _, k1, k2, k3, k4, rfl, rfl⟩
              all_goals first
                | exact mulOk_of b2S (show B 2 r2 by unfold B; omega) (by decide)
                | exact mulOk_of (j := 3) (by unfold B; decide) bS (by decide)
            all_goals exact mulOk_of (j := 3) (by unfold B; decide) bS (by decide)
          · and_intros
            refine roll_spec (by decide) (by decide) fun r2 a b r20 r21 => ?_
            and_intros
            · obtain ⟨k1, k2, k3, k4⟩ := fin2 F0 r2 (wayR p0 p1 s X Y) f0 (f1.mono' (by decide)) r20 r21 fe rfl
              exact ⟨_, _, _, _, _, _, k1, k2, k3, k4, rfl, rfl⟩
            all_goals first
              | exact mulOk_of b2S (show B 2 r2 by unfold B; omega) (by decide)
              | exact mulOk_of (j := 3) (by unfold B; decide) bS (by decide)
        · and_intros
          refine roll_spec (by decide) (by decide) fun r2 a b r20 r21 => ?_
          and_intros
          · obtain ⟨k1, k2, k3, k4⟩ := fin2 F0 r2 (wayR p0 p1 s X Y) f0 (f1.mono' (by decide)) r20 r21 fe rfl
            exact ⟨_, _, _, _, _, _, k1, k2, k3, k4, rfl, rfl⟩
          all_goals first
            | exact mulOk_of b2S (show B 2 r2 by unfold B; omega) (by decide)
            | exact mulOk_of (j := 3) (by unfold B; decide) bS (by decide)
      all_goals exact mulOk_of (j := 3) (by unfold B; decide) bS (by decide)
    | held =>
      and_intros
      refine k_dec (fun c1 => ?_) (fun c1 => ?_)
      · and_intros
        refine roll_spec (by decide) (by decide) fun r a b r0 r1 => ?_
        have br : B 3 r := by unfold B; omega
        have p : 0 ≤ s * bt * r := Int.mul_nonneg (Int.le_of_lt S0) r0
        and_intros
        · have w1 : 1 ≤ wayR p0 p1 s X Y := by
            have q : ((s * bt : Int) : Rat) ≤ (F0 : Rat) := by exact_mod_cast c1
            rw [fe] at q
            push_cast at q
            generalize wayR p0 p1 s X Y = w at *
            generalize (s : Rat) * (bt : Rat) = z at *
            by_cases hw : 1 ≤ w
            · exact hw
            · have : 0 < (1 - w) * z := Rat.mul_pos (by grind) sb0
              grind
          have rr : (0 : Rat) ≤ (r : Rat) := by exact_mod_cast r0
          refine ⟨F0 + s * bt * r, wayR p0 p1 s X Y + (r : Rat), a, b, _, _, by omega, (f1.addp (bS.mulp br) (by decide : _ < 76) (by decide)), ?_, held_big (by grind) w1, rfl, rfl⟩
          push_cast
          rw [fe]
          grind
        · exact mulOk_of bS br (by decide)
      · and_intros
        exact ⟨F0, _, _, _, _, _, f0, f1.mono' (by decide), fe, rfl, rfl, rfl⟩
  rintro l c' ⟨F, v, a, bb_, u4, u5, g0, g1, g2, g3, rfl, rfl⟩
  refine run_all ?_
  and_intros
  refine roll_spec (by decide) (by decide) fun r6 a b r60 r61 => ?_
  have bm : B 4 (1 + r6) := by unfold B; omega
  and_intros
  · refine roll_spec (by omega) (by omega) fun r7 a b r70 r71 => ?_
    have b7 : B 5 (2 * r7 - (1 + r6)) := by unfold B; omega
    have bFm : B 80 (F * (1 + r6)) := g1.mulp bm
    have bal : B 81 (F * (2 * r7 - (1 + r6))) := g1.mulp b7
    have bbm : B 64 (bt * (1 + r6)) := b2.mulp bm
    have hbm : 0 < bt * (1 + r6) := Int.mul_pos b1 (by omega)
    obtain ⟨m1, m2, m3, m4⟩ := max_side (F := F) (m := 1 + r6) (r := r7) g0 (by omega) r70 (by omega)
    have fin : ∀ x y : Int, maxI (absI x) (absI y) = F * (1 + r6) → B 81 x → B 81 y → B 83 (p0 * (bt * (1 + r6)) + x) ∧ B 83 (p1 * (bt * (1 + r6)) + y) ∧ broughtQ e (wayR p0 p1 s (Rat.divInt (p0 * (bt * (1 + r6)) + x) (bt * (1 + r6))) (Rat.divInt (p1 * (bt * (1 + r6)) + y) (bt * (1 + r6)))) = broughtQ e (wayR p0 p1 s X Y) := fun x y hxy bx by' => by
      refine ⟨(bp0.mulp bbm).addp bx (by decide : _ < 83) (by decide), (bp1.mulp bbm).addp by' (by decide : _ < 83) (by decide), ?_⟩
      have e1 := wayR_at (p0 := p0) (p1 := p1) (s := s) (by omega) b1 (show 0 < 1 + r6 by omega) hxy
      rw [g2] at e1
      rw [way_cancel sb0 e1, g3]
    and_intros
    · refine some_spec (by simp) (by simp) fun x hx a b => ?_
      simp only [List.mem_cons, List.not_mem_nil, or_false] at hx
      have o0 : mulOk p0 (bt * (1 + r6)) = true := mulOk_of bp0 bbm (by decide)
      have o1 : mulOk p1 (bt * (1 + r6)) = true := mulOk_of bp1 bbm (by decide)
      rcases hx with rfl | rfl | rfl | rfl
      · obtain ⟨q1, q2, q3⟩ := fin _ _ m1 (bFm.mono' (by decide)) bal
        and_intros
        · refine low_q hbm (q1.mono (by decide)) (bbm.mono' (by decide)) ?_
          and_intros
          · refine low_q hbm (q2.mono (by decide)) (bbm.mono' (by decide)) ?_
            and_intros
            exact h _ _ _ _ (Hq.of (Int.ne_of_gt hbm) (q1.mono' (by decide)) (bbm.mono' (by decide))) (Hq.of (Int.ne_of_gt hbm) (q2.mono' (by decide)) (bbm.mono' (by decide))) q3
          · exact o1
        · exact o0
      · obtain ⟨q1, q2, q3⟩ := fin _ _ m2 (bFm.mono' (by decide)).neg' bal
        and_intros
        · refine low_q hbm (q1.mono (by decide)) (bbm.mono' (by decide)) ?_
          and_intros
          · refine low_q hbm (q2.mono (by decide)) (bbm.mono' (by decide)) ?_
            and_intros
            exact h _ _ _ _ (Hq.of (Int.ne_of_gt hbm) (q1.mono' (by decide)) (bbm.mono' (by decide))) (Hq.of (Int.ne_of_gt hbm) (q2.mono' (by decide)) (bbm.mono' (by decide))) q3
          · exact o1
        · exact o0
      · obtain ⟨q1, q2, q3⟩ := fin _ _ m3 bal (bFm.mono' (by decide))
        and_intros
        · refine low_q hbm (q1.mono (by decide)) (bbm.mono' (by decide)) ?_
          and_intros
          · refine low_q hbm (q2.mono (by decide)) (bbm.mono' (by decide)) ?_
            and_intros
            exact h _ _ _ _ (Hq.of (Int.ne_of_gt hbm) (q1.mono' (by decide)) (bbm.mono' (by decide))) (Hq.of (Int.ne_of_gt hbm) (q2.mono' (by decide)) (bbm.mono' (by decide))) q3
          · exact o1
        · exact o0
      · obtain ⟨q1, q2, q3⟩ := fin _ _ m4 bal (bFm.mono' (by decide)).neg'
        and_intros
        · refine low_q hbm (q1.mono (by decide)) (bbm.mono' (by decide)) ?_
          and_intros
          · refine low_q hbm (q2.mono (by decide)) (bbm.mono' (by decide)) ?_
            and_intros
            exact h _ _ _ _ (Hq.of (Int.ne_of_gt hbm) (q1.mono' (by decide)) (bbm.mono' (by decide))) (Hq.of (Int.ne_of_gt hbm) (q2.mono' (by decide)) (bbm.mono' (by decide))) q3
          · exact o1
        · exact o0
    all_goals first
      | exact mulOk_of g1 b7 (by decide)
      | exact mulOk_of g1 bm (by decide)
      | exact mulOk_of b2 bm (by decide)
      | exact mulOk_of (j := 3) (k := 4) (by unfold B; decide) (show B 4 r7 by unfold B; omega) (by decide)
end
end Xp


namespace Xp
open PySem
/-- what a paint shows -/
def shownQ : Pt → Rat → Rat → PyData
  | .plain c, _, _ => c.d
  | .slope p0 p1 q0 q1 c d e, X, Y => inksQ c d (broughtQ e (wayS p0 p1 q0 q1 X Y))
  | .rings p0 p1 s c d e, X, Y => inksQ c d (broughtQ e (wayR p0 p1 s X Y))
  | .tiles s rows, X, Y => match rows with
    | [] => .none
    | r :: _ => match tileQ s rows r.length X Y with
      | some o => tint o
      | none => .none
theorem n_pos {x y : Int} (h : x ≠ 0 ∨ y ≠ 0) : 0 < x * x + y * y := by
  have a := sq_nn x
  have b := sq_nn y
  rcases h with h | h
  · rcases Int.lt_or_gt_of_ne h with h | h
    · have := Int.mul_pos_of_neg_of_neg h h
      omega
    · have := Int.mul_pos h h
      omega
  · rcases Int.lt_or_gt_of_ne h with h | h
    · have := Int.mul_pos_of_neg_of_neg h h
      omega
    · have := Int.mul_pos h h
      omega
theorem wayS_move {p0 p1 q0 q1 : Int} {X Y t u : Rat} (hn : (q0 - p0) * (q0 - p0) + (q1 - p1) * (q1 - p1) ≠ 0) : wayS p0 p1 q0 q1 (X + ((-(q1 - p1) : Int) : Rat) * t + ((q0 - p0 : Int) : Rat) * u) (Y + ((q0 - p0 : Int) : Rat) * t + ((q1 - p1 : Int) : Rat) * u) = wayS p0 p1 q0 q1 X Y + u := by
  have d3 : (((q0 - p0) * (q0 - p0) + (q1 - p1) * (q1 - p1) : Int) : Rat) ≠ 0 := by exact_mod_cast hn
  unfold wayS
  have e : u = (u * (((q0 - p0) * (q0 - p0) + (q1 - p1) * (q1 - p1) : Int) : Rat)) / (((q0 - p0) * (q0 - p0) + (q1 - p1) * (q1 - p1) : Int) : Rat) := by
    generalize (((q0 - p0) * (q0 - p0) + (q1 - p1) * (q1 - p1) : Int) : Rat) = n at *
    grind
  have comb : ∀ a b n : Rat, n ≠ 0 → a / n + b / n = (a + b) / n := fun a b n h => by grind
  conv => rhs; rw [e, comb _ _ _ d3]
  congr 1
  push_cast
  grind
theorem wayS_move0 {p0 p1 q0 q1 : Int} {X Y u : Rat} (hn : (q0 - p0) * (q0 - p0) + (q1 - p1) * (q1 - p1) ≠ 0) : wayS p0 p1 q0 q1 (X + ((q0 - p0 : Int) : Rat) * u) (Y + ((q1 - p1 : Int) : Rat) * u) = wayS p0 p1 q0 q1 X Y + u := by
  have := wayS_move (X := X) (Y := Y) (t := 0) (u := u) hn
  rw [← this]
  congr 1 <;> grind
theorem wayS_shift {p0 p1 q0 q1 x y : Int} {X Y : Rat} : wayS (p0 + x) (p1 + y) (q0 + x) (q1 + y) (X + (x : Rat) * 1) (Y + (y : Rat) * 1) = wayS p0 p1 q0 q1 X Y := by
  unfold wayS
  rw [show q0 + x - (p0 + x) = q0 - p0 by omega, show q1 + y - (p1 + y) = q1 - p1 by omega]
  congr 1
  push_cast
  grind
theorem wayR_shift {p0 p1 s x y : Int} {X Y : Rat} : wayR (p0 + x) (p1 + y) s (X + (x : Rat) * 1) (Y + (y : Rat) * 1) = wayR p0 p1 s X Y := by
  unfold wayR
  rw [show X + (x : Rat) * 1 - ((p0 + x : Int) : Rat) = X - (p0 : Rat) by push_cast; grind, show Y + (y : Rat) * 1 - ((p1 + y : Int) : Rat) = Y - (p1 : Rat) by push_cast; grind]
theorem floor_move {X : Rat} {s n m : Int} (hs : 0 < s) : ((X + ((s * n * m : Int) : Rat) * 1) / (s : Rat)).floor % n = (X / (s : Rat)).floor % n := by
  have s0 : (s : Rat) ≠ 0 := by
    intro z
    have : s = 0 := by exact_mod_cast z
    omega
  have e : (X + ((s * n * m : Int) : Rat) * 1) / (s : Rat) = X / (s : Rat) + ((n * m : Int) : Rat) := by
    push_cast
    generalize (s : Rat) = s at *
    grind
  rw [e, floor_add, Int.add_mul_emod_self_left]
theorem tile_move {s : Int} {rows : List (List (Option Ik))} {n : Nat} {X Y : Rat} {a b : Int} (hs : 0 < s) : tileQ s rows n (X + ((s * n * a : Int) : Rat) * 1) (Y + ((s * (rows.length : Int) * b : Int) : Rat) * 1) = tileQ s rows n X Y := by
  unfold tileQ
  rw [floor_move hs, floor_move hs]
theorem share_H {X Y : Rat} {p0 p1 q0 q1 : Int} (hX : Hq 30 X) (hY : Hq 30 Y) (h0 : B 10 p0) (h1 : B 10 p1) (h2 : B 10 q0) (h3 : B 10 q1) (hn : (q0 - p0) * (q0 - p0) + (q1 - p1) * (q1 - p1) ≠ 0) : Hq 110 (wayS p0 p1 q0 q1 X Y) := by
  have bx : B 11 (q0 - p0) := by unfold B at *; omega
  have by' : B 11 (q1 - p1) := by unfold B at *; omega
  have bn : B 23 ((q0 - p0) * (q0 - p0) + (q1 - p1) * (q1 - p1)) := (bx.mulp bx).addp (by'.mulp by') (by decide) (by decide)
  have bb : B 60 ((X.den : Int) * Y.den) := hX.d.mulp hY.d
  have br : B 72 (X.num * Y.den - p0 * ((X.den : Int) * Y.den)) := by
    have := (hX.n.mulp hY.d).addp ((h0.mulp bb).neg') (by decide : _ < 72) (by decide)
    rwa [← Int.sub_eq_add_neg] at this
  have bd : B 72 (Y.num * X.den - p1 * ((X.den : Int) * Y.den)) := by
    have := (hY.n.mulp hX.d).addp ((h1.mulp bb).neg') (by decide : _ < 72) (by decide)
    rwa [← Int.sub_eq_add_neg] at this
  rw [← share_eq hn]
  exact Hq.of (Int.mul_ne_zero (Int.mul_ne_zero den_ne den_ne) hn) ((br.mulp bx).addp (bd.mulp by') (by decide : _ < 110) (by decide)) ((bb.mulp bn).mono' (by decide))
section
variable {k : Nat} {st t : List Cell} {Q : R → List Cell → Prop}
theorem paint_q {x : Pt} {X Y : Rat} (hg : Good x) (hX : Hq 200 X) (hY : Hq 200 Y) (h : Q (.w (.d (shownQ x X Y))) st) : CallI (call Ps Gs wfL (k + 7)) 20 [.d x.d, .d (.tuple [fq X, fq Y])] st Q := by
  cases hg with
  | plain hc => exact plain_at h
  | slope a1 a2 a3 a4 a5 a6 a7 a8 hne hc hd => exact slope_at hX hY (by unfold B; omega) (by unfold B; omega) (by unfold B; omega) (by unfold B; omega) (Int.ne_of_gt (n_pos (by omega))) hc hd h
  | rings a1 a2 a3 a4 a5 a6 hc hd => exact rings_at hX hY (by unfold B; omega) (by unfold B; omega) (by omega) (by unfold B; omega) hc hd h
  | @tiles s rows n ht =>
    obtain ⟨o, ho, _⟩ := tile_some (X := X) (Y := Y) ht
    refine tiles_at ht hX hY ho ?_
    have hr := ht.r0
    cases rows with
    | nil => simp at hr
    | cons r rs =>
      have hl := ht.len r List.mem_cons_self
      subst hl
      unfold shownQ at h
      simp only [ho] at h
      exact h
theorem like_q {x : Pt} {X Y : Rat} {a b : Int} (hg : Good x) (hX : Hq 30 X) (hY : Hq 30 Y) (h : ∀ (X' Y' : Rat) (a' b' : Int), Hq 200 X' → Hq 200 Y' → shownQ x X' Y' = shownQ x X Y → Q (.t [fq X', fq Y']) ([.int a', .int b'] :: t)) : CallI (call Ps Gs wfL (k + 6)) 35 [.cell 0, .d x.d, .d (.tuple [fq X, fq Y])] ([.int a, .int b] :: t) Q := by
  cases hg with
  | @plain c hc =>
    refine into rfl rfl ?_
    and_intros
    refine place_q fun X' Y' a b hX' hY' => ?_
    and_intros
    exact h X' Y' _ _ (hX'.mono (by decide)) (hY'.mono (by decide)) rfl
  | @rings p0 p1 s c d e a1 a2 a3 a4 a5 a6 hc hd =>
    refine into rfl rfl ?_
    and_intros
    refine rings_q hX hY a1 a2 a3 a4 a5 a6 fun X' Y' a b hX' hY' he => ?_
    and_intros
    refine h X' Y' _ _ (hX'.mono (by decide)) (hY'.mono (by decide)) ?_
    show inksQ c d (broughtQ e (wayR p0 p1 s X' Y')) = inksQ c d (broughtQ e (wayR p0 p1 s X Y))
    rw [he]
  | @tiles s rows n ht =>
    have hs := ht.s0
    have hs1 := ht.s1
    have hr := ht.r0
    have hr1 := ht.r1
    have hn := ht.n0
    have hn1 := ht.n1
    cases rows with
    | nil => simp at hr
    | cons r rs =>
      have hl := ht.len r List.mem_cons_self
      have hl2 : (r.map tint).length = n := by rw [List.length_map]; exact hl
      have hl3 : (rowsD (r :: rs)).length = (r :: rs).length := List.length_map _
      have bs : B 8 s := by unfold B; omega
      have bn : B 4 ((r.map tint).length : Int) := by rw [hl2]; unfold B; omega
      have br : B 4 ((rowsD (r :: rs)).length : Int) := by rw [hl3]; unfold B; omega
      refine into rfl rfl ?_
      and_intros
      · refine roll_spec (by decide) (by decide) fun r1 a b r10 r11 => ?_
        have b1 : B 4 (r1 - 3) := by unfold B; omega
        and_intros
        · refine roll_spec (by decide) (by decide) fun r2 a b r20 r21 => ?_
          have b2 : B 4 (r2 - 3) := by unfold B; omega
          and_intros
          · refine moved_q (u := 1) (j := 3) hX hY ⟨by decide, by decide⟩ (by decide) ((bs.mulp bn).mulp b1) ((bs.mulp br).mulp b2) ?_
            and_intros
            refine h _ _ _ _ ?_ ?_ ?_
            · exact (hX.add ((Hq.int ((bs.mulp bn).mulp b1) (by decide)).mul (show Hq 3 (1 : Rat) from ⟨by decide, by decide⟩))).mono (by decide)
            · exact (hY.add ((Hq.int ((bs.mulp br).mulp b2) (by decide)).mul (show Hq 3 (1 : Rat) from ⟨by decide, by decide⟩))).mono (by decide)
            · unfold shownQ
              rw [hl3, List.length_map]
              simp only [tile_move hs]
          all_goals first | exact mulOk_of (bs.mulp br) b2 (by decide) | exact mulOk_of bs br (by decide)
        all_goals first | exact mulOk_of (bs.mulp bn) b1 (by decide) | exact mulOk_of bs br (by decide) | exact mulOk_of bs bn (by decide)
      all_goals exact mulOk_of bs bn (by decide)
  | @slope p0 p1 q0 q1 c d e a1 a2 a3 a4 a5 a6 a7 a8 hne hc hd =>
    have hn : (q0 - p0) * (q0 - p0) + (q1 - p1) * (q1 - p1) ≠ 0 := Int.ne_of_gt (n_pos (by omega))
    have bx : B 16 (q0 - p0) := by unfold B; omega
    have by' : B 16 (q1 - p1) := by unfold B; omega
    have byn : B 16 (-(q1 - p1)) := by unfold B; omega
    have two : ∀ (many a b : Int) , B 8 many → broughtQ e (wayS p0 p1 q0 q1 X Y + (many : Rat)) = broughtQ e (wayS p0 p1 q0 q1 X Y) → ∀ (g : Rat), Hq 30 g → Hq 80 (X + ((-(q1 - p1) : Int) : Rat) * g) ∧ Hq 80 (Y + ((q0 - p0 : Int) : Rat) * g) ∧ Hq 200 (X + ((-(q1 - p1) : Int) : Rat) * g + ((q0 - p0 : Int) : Rat) * (many : Rat)) ∧ Hq 200 (Y + ((q0 - p0 : Int) : Rat) * g + ((q1 - p1 : Int) : Rat) * (many : Rat)) ∧ shownQ (.slope p0 p1 q0 q1 c d e) (X + ((-(q1 - p1) : Int) : Rat) * g + ((q0 - p0 : Int) : Rat) * (many : Rat)) (Y + ((q0 - p0 : Int) : Rat) * g + ((q1 - p1 : Int) : Rat) * (many : Rat)) = shownQ (.slope p0 p1 q0 q1 c d e) X Y := fun many a b bm hb g hg => by
      have h1 : Hq 80 (X + ((-(q1 - p1) : Int) : Rat) * g) := (hX.add ((Hq.int byn (by decide)).mul hg)).mono (by decide)
      have h2 : Hq 80 (Y + ((q0 - p0 : Int) : Rat) * g) := (hY.add ((Hq.int bx (by decide)).mul hg)).mono (by decide)
      refine ⟨h1, h2, (h1.add ((Hq.int bx (by decide)).mul (Hq.int bm (by decide)))).mono (by decide), (h2.add ((Hq.int by' (by decide)).mul (Hq.int bm (by decide)))).mono (by decide), ?_⟩
      show inksQ c d (broughtQ e (wayS p0 p1 q0 q1 _ _)) = inksQ c d (broughtQ e (wayS p0 p1 q0 q1 X Y))
      rw [wayS_move hn, hb]
    cases e with
    | held =>
      refine into rfl rfl ?_
      and_intros
      refine roll_spec (by decide) (by decide) fun r1 a b r10 r11 => ?_
      and_intros
      refine roll_spec (by decide) (by decide) fun r2 a b r20 r21 => ?_
      and_intros
      · refine number_q fun g a b hg => ?_
        obtain ⟨w1, w2, w3, w4, w5⟩ := two 0 a b (by unfold B; decide) (by congr 1; show _ + ((0 : Int) : Rat) = _; push_cast; grind) g hg
        and_intros
        refine moved_q (j := 30) hX hY hg (by decide) byn bx ?_
        and_intros
        refine moved_q (u := ((0 : Int) : Rat)) (j := 8) w1 w2 (Hq.int (by unfold B; decide) (by decide)) (by decide) bx by' ?_
        and_intros
        exact h _ _ _ _ w3 w4 w5
      all_goals exact mulOk_of (j := 3) (k := 4) (by unfold B; decide) (by unfold B; omega) (by decide)
    | again =>
      refine into rfl rfl ?_
      and_intros
      refine roll_spec (by decide) (by decide) fun r1 a b r10 r11 => ?_
      and_intros
      refine roll_spec (by decide) (by decide) fun r2 a b r20 r21 => ?_
      and_intros
      · refine number_q fun g a b hg => ?_
        obtain ⟨w1, w2, w3, w4, w5⟩ := two (r1 - 3) a b (by unfold B; omega) again_add g hg
        and_intros
        refine moved_q (j := 30) hX hY hg (by decide) byn bx ?_
        and_intros
        refine moved_q (u := ((r1 - 3 : Int) : Rat)) (j := 8) w1 w2 (Hq.int (by unfold B; omega) (by decide)) (by decide) bx by' ?_
        and_intros
        exact h _ _ _ _ w3 w4 w5
      all_goals exact mulOk_of (j := 3) (k := 4) (by unfold B; decide) (by unfold B; omega) (by decide)
    | back =>
      refine into rfl rfl ?_
      and_intros
      refine roll_spec (by decide) (by decide) fun r0 a b r00 r01 => ?_
      and_intros
      refine k_dec (fun c0 => ?_) (fun c0 => ?_)
      · and_intros
        refine share_q (hX.mono (by decide)) (hY.mono (by decide)) (by unfold B; omega) (by unfold B; omega) (by unfold B; omega) (by unfold B; omega) hn ?_
        have hS := share_H (hX.mono (by decide)) (hY.mono (by decide)) (p0 := p0) (p1 := p1) (q0 := q0) (q1 := q1) (by unfold B; omega) (by unfold B; omega) (by unfold B; omega) (by unfold B; omega) hn
        generalize hw : wayS p0 p1 q0 q1 X Y = w at *
        and_intros
        refine some_int (p := fun i => -1 ≤ i ∧ i ≤ 2) ?_ (by simp) (by simp) fun v a b hv => ?_
        · intro x hx
          simp only [List.mem_cons, List.not_mem_nil, or_false] at hx
          rcases hx with rfl | rfl | rfl | rfl
          all_goals exact ⟨_, rfl, by omega, by omega⟩
        have bv : B 3 v := by unfold B; omega
        have b1 : B 120 (v * (w.den : Int) - w.num) := by
          have := (bv.mulp hS.d).addp hS.n.neg' (by decide : _ < 120) (by decide)
          rwa [← Int.sub_eq_add_neg] at this
        have b2 : B 122 (2 * (v * (w.den : Int) - w.num)) := by unfold B at *; omega
        have eu : Rat.divInt (2 * (v * (w.den : Int) - w.num)) (w.den : Int) = -w - w + ((2 * v : Int) : Rat) := by
          have d1 : (w.den : Rat) ≠ 0 := by exact_mod_cast w.den_nz
          rw [Rat.divInt_eq_div]
          push_cast
          rw [num_of w]
          generalize (w.den : Rat) = d at *
          grind
        have hu : Hq 125 (-w - w + ((2 * v : Int) : Rat)) := by
          rw [← eu]
          exact Hq.of den_ne (b2.mono' (by decide)) (hS.d.mono' (by decide))
        and_intros
        · refine low_q den_pos (b2.mono (by decide)) (hS.d.mono' (by decide)) ?_
          rw [eu]
          and_intros
          refine moved_q (j := 125) hX hY hu (by decide) bx by' ?_
          and_intros
          refine h _ _ _ _ ((hX.add ((Hq.int bx (by decide)).mul hu)).mono (by decide)) ((hY.add ((Hq.int by' (by decide)).mul hu)).mono (by decide)) ?_
          show inksQ c d (broughtQ .back (wayS p0 p1 q0 q1 _ _)) = inksQ c d (broughtQ .back (wayS p0 p1 q0 q1 X Y))
          rw [wayS_move0 hn, hw, show w + (-w - w + ((2 * v : Int) : Rat)) = -w + ((2 * v : Int) : Rat) by grind, back_add, back_neg]
        all_goals first
          | exact mulOk_of bv hS.d (by decide)
          | exact mulOk_of (j := 3) (by unfold B; decide) b1 (by decide)
      · and_intros
        refine roll_spec (by decide) (by decide) fun r1 a b r10 r11 => ?_
        and_intros
        refine roll_spec (by decide) (by decide) fun r2 a b r20 r21 => ?_
        and_intros
        · refine number_q fun g a b hg => ?_
          obtain ⟨w1, w2, w3, w4, w5⟩ := two (2 * (r2 - 2)) a b (by unfold B; omega) back_add g hg
          and_intros
          refine moved_q (j := 30) hX hY hg (by decide) byn bx ?_
          and_intros
          refine moved_q (u := ((2 * (r2 - 2) : Int) : Rat)) (j := 8) w1 w2 (Hq.int (by unfold B; omega) (by decide)) (by decide) bx by' ?_
          and_intros
          exact h _ _ _ _ w3 w4 w5
        all_goals exact mulOk_of (j := 3) (k := 4) (by unfold B; decide) (by unfold B; omega) (by decide)
end
end Xp


namespace Xp
open PySem
theorem ink_range {a b : Int} {w : Rat} (ha : 0 ≤ a) (ha1 : a ≤ 100) (hb : 0 ≤ b) (hb1 : b ≤ 100) (h0 : 0 ≤ w) (h1 : w ≤ 1) : B 64 (inkQ a b w) := by
  have a0 : (0 : Rat) ≤ (a : Rat) := by exact_mod_cast ha
  have a1 : (a : Rat) ≤ 100 := by exact_mod_cast ha1
  have b0 : (0 : Rat) ≤ (b : Rat) := by exact_mod_cast hb
  have b1 : (b : Rat) ≤ 100 := by exact_mod_cast hb1
  have p1 : 0 ≤ (a : Rat) * (1 - w) := Rat.mul_nonneg a0 (by grind)
  have p2 : 0 ≤ (b : Rat) * w := Rat.mul_nonneg b0 h0
  have p3 : 0 ≤ (100 - (a : Rat)) * (1 - w) := Rat.mul_nonneg (by grind) (by grind)
  have p4 : 0 ≤ (100 - (b : Rat)) * w := Rat.mul_nonneg (by grind) h0
  have e : ((b - a : Int) : Rat) = (b : Rat) - (a : Rat) := by push_cast; rfl
  unfold inkQ
  rw [e]
  have lo : ((0 : Int) : Rat) ≤ (a : Rat) + w * ((b : Rat) - (a : Rat)) + 1 / 2 := by
    show (0 : Rat) ≤ _
    grind
  have hi : (a : Rat) + w * ((b : Rat) - (a : Rat)) + 1 / 2 < ((101 : Int) : Rat) := by
    show _ < (101 : Rat)
    grind
  have l1 := Rat.le_floor_iff.mpr lo
  have l2 := Rat.floor_lt_iff.mpr hi
  unfold B
  omega
theorem ok_ints3 {a b c : Int} (ha : B 64 a) (hb : B 64 b) (hc : B 64 c) : showOk (.tuple [.int a, .int b, .int c]) = true := by
  refine (ok_tup (n := 3) (t := 0) (L := 65) (fun x hx => ?_) (by simp)).ok (by omega) (by omega)
  simp only [List.mem_cons, List.not_mem_nil, or_false] at hx
  rcases hx with rfl | rfl | rfl
  · exact ok_int ha
  · exact ok_int hb
  · exact ok_int hc
theorem ik_show {c : Ik} (h : c.ok) : showOk c.d = true := by
  have := h.a0; have := h.a1; have := h.b0; have := h.b1; have := h.c0; have := h.c1
  exact ok_ints3 (by unfold B; omega) (by unfold B; omega) (by unfold B; omega)
theorem inks_show {c d : Ik} {e : Eg} {w : Rat} (hc : c.ok) (hd : d.ok) : showOk (inksQ c d (broughtQ e w)) = true := by
  obtain ⟨r0, r1⟩ := brought_range (e := e) (w := w)
  exact ok_ints3 (ink_range hc.a0 hc.a1 hd.a0 hd.a1 r0 r1) (ink_range hc.b0 hc.b1 hd.b0 hd.b1 r0 r1) (ink_range hc.c0 hc.c1 hd.c0 hd.c1 r0 r1)
theorem shown_ok {x : Pt} {X Y : Rat} (hg : Good x) : showOk (shownQ x X Y) = true := by
  cases hg with
  | plain hc => exact ik_show hc
  | slope a1 a2 a3 a4 a5 a6 a7 a8 hne hc hd => exact inks_show hc hd
  | rings a1 a2 a3 a4 a5 a6 hc hd => exact inks_show hc hd
  | @tiles s rows n ht =>
    obtain ⟨o, ho, hk⟩ := tile_some (X := X) (Y := Y) ht
    have hr := ht.r0
    cases rows with
    | nil => simp at hr
    | cons r rs =>
      have hl := ht.len r List.mem_cons_self
      subst hl
      unfold shownQ
      simp only [ho]
      cases o with
      | none => exact (ok_none).ok (by omega) (by omega)
      | some k => exact ik_show (hk k rfl)
theorem ink_zero {a b : Int} : inkQ a b ((0 : Int) : Rat) = a := by
  unfold inkQ
  refine floor_of ?_ ?_
  · show (a : Rat) ≤ (a : Rat) + 0 * _ + 1 / 2
    grind
  · show (a : Rat) + 0 * _ + 1 / 2 < (a : Rat) + 1
    grind
theorem ink_one {a b : Int} : inkQ a b 1 = b := by
  unfold inkQ
  have e : ((b - a : Int) : Rat) = (b : Rat) - (a : Rat) := by push_cast; rfl
  rw [e]
  refine floor_of ?_ ?_
  · grind
  · grind
theorem held_low {w : Rat} (h : w ≤ 0) : broughtQ .held w = ((0 : Int) : Rat) := by
  show (if w < 0 then ((0 : Int) : Rat) else if 1 < w then 1 else w) = _
  have e : ((0 : Int) : Rat) = 0 := rfl
  rw [e]
  split
  · rfl
  · split <;> grind
theorem held_high {w : Rat} (h : 1 ≤ w) : broughtQ .held w = 1 := by
  show (if w < 0 then ((0 : Int) : Rat) else if 1 < w then 1 else w) = 1
  split
  · grind
  · split <;> grind
theorem inks_low {c d : Ik} {w : Rat} (h : w ≤ 0) : inksQ c d (broughtQ .held w) = c.d := by
  rw [held_low h]
  unfold inksQ Ik.d
  rw [ink_zero, ink_zero, ink_zero]
theorem inks_high {c d : Ik} {w : Rat} (h : 1 ≤ w) : inksQ c d (broughtQ .held w) = d.d := by
  rw [held_high h]
  unfold inksQ Ik.d
  rw [ink_one, ink_one, ink_one]
theorem eqv_ik {c : Ik} : PyData.eqv c.d c.d = true := by
  simp [Ik.d, PyData.eqv, PyData.eqvAll]
theorem eqv_tint {o : Option Ik} : PyData.eqv (tint o) (tint o) = true := by
  cases o with
  | none => rfl
  | some k => exact eqv_ik
theorem wayS_base {p0 p1 q0 q1 : Int} : wayS p0 p1 q0 q1 (p0 : Rat) (p1 : Rat) = 0 := by
  unfold wayS
  rw [show ((p0 : Rat) - (p0 : Rat)) = 0 by grind, show ((p1 : Rat) - (p1 : Rat)) = 0 by grind, Rat.zero_mul, Rat.zero_mul]
  grind
theorem wayS_far {p0 p1 q0 q1 m : Int} (hn : (q0 - p0) * (q0 - p0) + (q1 - p1) * (q1 - p1) ≠ 0) : wayS p0 p1 q0 q1 ((p0 + m * (q0 - p0) : Int) : Rat) ((p1 + m * (q1 - p1) : Int) : Rat) = (m : Rat) := by
  have := wayS_move0 (X := (p0 : Rat)) (Y := (p1 : Rat)) (u := (m : Rat)) hn
  rw [wayS_base] at this
  rw [show ((p0 + m * (q0 - p0) : Int) : Rat) = (p0 : Rat) + ((q0 - p0 : Int) : Rat) * (m : Rat) by push_cast; grind, show ((p1 + m * (q1 - p1) : Int) : Rat) = (p1 : Rat) + ((q1 - p1 : Int) : Rat) * (m : Rat) by push_cast; grind, this]
  grind
theorem wayR_base {p0 p1 s : Int} : wayR p0 p1 s (p0 : Rat) (p1 : Rat) = 0 := by
  unfold wayR
  rw [show ((p0 : Rat) - (p0 : Rat)) = 0 by grind, show ((p1 : Rat) - (p1 : Rat)) = 0 by grind]
  split <;> (unfold aq; split <;> grind)
theorem wayR_far {p0 p1 s m : Int} (hs : 0 < s) (hm : 1 ≤ m) : 1 ≤ wayR p0 p1 s ((p0 : Int) : Rat) ((p1 - m * s : Int) : Rat) := by
  have h := wayR_mul (p0 := p0) (p1 := p1) (s := s) (R := 0) (D := -(m * s)) (X := (p0 : Rat)) (Y := ((p1 - m * s : Int) : Rat)) (b := 1) hs (by decide) (by push_cast; grind) (by push_cast; grind)
  have ms : 0 < m * s := Int.mul_pos (by omega) hs
  have e : maxI (absI 0) (absI (-(m * s))) = m * s := by
    unfold maxI absI
    generalize m * s = z at *
    split <;> split <;> omega
  rw [e] at h
  have s0 : (0 : Rat) < (s : Rat) := by exact_mod_cast hs
  have m1 : (1 : Rat) ≤ (m : Rat) := by exact_mod_cast hm
  push_cast at h ⊢
  have q : wayR p0 p1 s (p0 : Rat) ((p1 : Rat) - (m : Rat) * (s : Rat)) = (m : Rat) := by
    generalize wayR p0 p1 s (p0 : Rat) ((p1 : Rat) - (m : Rat) * (s : Rat)) = w at *
    refine way_cancel s0 ?_
    rw [h]
    grind
  rw [q]
  exact m1
section
variable {k : Nat} {st t : List Cell} {Q : R → List Cell → Prop}
theorem ends_slope {p0 p1 q0 q1 : Int} {c d : Ik} {e : Eg} {a b : Int} (hg : Good (.slope p0 p1 q0 q1 c d e)) (h : ∀ a' b' : Int, Q (.b true) ([.int a', .int b'] :: t)) : CallI (call Ps Gs wfL (k + 8)) 36 [.cell 0, .d (Pt.slope p0 p1 q0 q1 c d e).d] ([.int a, .int b] :: t) Q := by
  cases hg with
  | slope a1 a2 a3 a4 a5 a6 a7 a8 hne hc hd =>
  have hn : (q0 - p0) * (q0 - p0) + (q1 - p1) * (q1 - p1) ≠ 0 := Int.ne_of_gt (n_pos (by omega))
  have gh : Good (.slope p0 p1 q0 q1 c d .held) := .slope a1 a2 a3 a4 a5 a6 a7 a8 hne hc hd
  refine into rfl rfl ?_
  and_intros
  refine roll_spec (by decide) (by decide) fun r a b r0 r1 => ?_
  have bx : B 10 (q0 - p0) := by unfold B; omega
  have by' : B 10 (q1 - p1) := by unfold B; omega
  have b1 : B 4 (1 + r) := by unfold B; omega
  have b2 : B 4 (1 + r - 1) := by unfold B; omega
  have bp0 : B 10 p0 := by unfold B; omega
  have bp1 : B 10 p1 := by unfold B; omega
  and_intros
  · refine lc_c ?_
    and_intros
    refine lc_c ?_
    and_intros
    have z1 : B 30 (p0 - (1 + r - 1) * (q0 - p0)) := by
      have := bp0.addp (b2.mulp bx).neg' (by decide : _ < 30) (by decide)
      rwa [← Int.sub_eq_add_neg] at this
    have z2 : B 30 (p1 - (1 + r - 1) * (q1 - p1)) := by
      have := bp1.addp (b2.mulp by').neg' (by decide : _ < 30) (by decide)
      rwa [← Int.sub_eq_add_neg] at this
    have z3 : B 30 (p0 + (1 + r) * (q0 - p0)) := bp0.addp (b1.mulp bx) (by decide) (by decide)
    have z4 : B 30 (p1 + (1 + r) * (q1 - p1)) := bp1.addp (b1.mulp by') (by decide) (by decide)
    refine paint_q (x := .slope p0 p1 q0 q1 c d .held) (X := ((p0 - (1 + r - 1) * (q0 - p0) : Int) : Rat)) (Y := ((p1 - (1 + r - 1) * (q1 - p1) : Int) : Rat)) gh (Hq.int (z1.mono' (by decide)) (by decide)) (Hq.int (z2.mono' (by decide)) (by decide)) ?_
    have e1 : shownQ (.slope p0 p1 q0 q1 c d .held) ((p0 - (1 + r - 1) * (q0 - p0) : Int) : Rat) ((p1 - (1 + r - 1) * (q1 - p1) : Int) : Rat) = c.d := by
      refine inks_low ?_
      rw [show p0 - (1 + r - 1) * (q0 - p0) = p0 + (-r) * (q0 - p0) by rw [Int.neg_mul, show 1 + r - 1 = r by omega]; omega, show p1 - (1 + r - 1) * (q1 - p1) = p1 + (-r) * (q1 - p1) by rw [Int.neg_mul, show 1 + r - 1 = r by omega]; omega, wayS_far hn]
      have : (0 : Rat) ≤ (r : Rat) := by exact_mod_cast r0
      push_cast
      grind
    rw [e1]
    and_intros
    rw [eqv_ik]
    and_intros
    refine paint_q (x := .slope p0 p1 q0 q1 c d .held) (X := ((p0 + (1 + r) * (q0 - p0) : Int) : Rat)) (Y := ((p1 + (1 + r) * (q1 - p1) : Int) : Rat)) gh (Hq.int (z3.mono' (by decide)) (by decide)) (Hq.int (z4.mono' (by decide)) (by decide)) ?_
    have e2 : shownQ (.slope p0 p1 q0 q1 c d .held) ((p0 + (1 + r) * (q0 - p0) : Int) : Rat) ((p1 + (1 + r) * (q1 - p1) : Int) : Rat) = d.d := by
      refine inks_high ?_
      rw [wayS_far hn]
      have : (0 : Rat) ≤ (r : Rat) := by exact_mod_cast r0
      push_cast
      grind
    rw [e2]
    and_intros
    rw [eqv_ik]
    exact h _ _
  all_goals first
    | exact mulOk_of b2 bx (by decide)
    | exact mulOk_of b2 by' (by decide)
    | exact mulOk_of b1 bx (by decide)
    | exact mulOk_of b1 by' (by decide)
theorem ends_rings {p0 p1 s : Int} {c d : Ik} {e : Eg} {a b : Int} (hg : Good (.rings p0 p1 s c d e)) (h : ∀ a' b' : Int, Q (.b true) ([.int a', .int b'] :: t)) : CallI (call Ps Gs wfL (k + 8)) 36 [.cell 0, .d (Pt.rings p0 p1 s c d e).d] ([.int a, .int b] :: t) Q := by
  cases hg with
  | rings a1 a2 a3 a4 a5 a6 hc hd =>
  have gh : Good (.rings p0 p1 s c d .held) := .rings a1 a2 a3 a4 a5 a6 hc hd
  refine into rfl rfl ?_
  and_intros
  refine roll_spec (by decide) (by decide) fun r a b r0 r1 => ?_
  have bs : B 10 s := by unfold B; omega
  have b1 : B 4 (1 + r) := by unfold B; omega
  have bp0 : B 10 p0 := by unfold B; omega
  have bp1 : B 10 p1 := by unfold B; omega
  and_intros
  · refine lc_c ?_
    and_intros
    refine lc_c ?_
    and_intros
    have z2 : B 30 (p1 - (1 + r) * s) := by
      have := bp1.addp (b1.mulp bs).neg' (by decide : _ < 30) (by decide)
      rwa [← Int.sub_eq_add_neg] at this
    refine paint_q (x := .rings p0 p1 s c d .held) (X := (p0 : Rat)) (Y := (p1 : Rat)) gh (Hq.int (bp0.mono' (by decide)) (by decide)) (Hq.int (bp1.mono' (by decide)) (by decide)) ?_
    have e1 : shownQ (.rings p0 p1 s c d .held) (p0 : Rat) (p1 : Rat) = c.d := by
      refine inks_low ?_
      rw [wayR_base]
      grind
    rw [e1]
    and_intros
    rw [eqv_ik]
    and_intros
    refine paint_q (x := .rings p0 p1 s c d .held) (X := (p0 : Rat)) (Y := ((p1 - (1 + r) * s : Int) : Rat)) gh (Hq.int (bp0.mono' (by decide)) (by decide)) (Hq.int (z2.mono' (by decide)) (by decide)) ?_
    have e2 : shownQ (.rings p0 p1 s c d .held) (p0 : Rat) ((p1 - (1 + r) * s : Int) : Rat) = d.d := inks_high (wayR_far (by omega) (by omega))
    rw [e2]
    and_intros
    rw [eqv_ik]
    exact h _ _
  all_goals exact mulOk_of b1 bs (by decide)
end
end Xp


namespace Xp
open PySem
theorem mid_floor {s : Int} {j : Nat} (hs : 0 < s) : (Rat.divInt ((2 * (j : Int) + 1) * s) 2 / (s : Rat)).floor = (j : Int) := by
  have s0 : (s : Rat) ≠ 0 := by
    intro z
    have : s = 0 := by exact_mod_cast z
    omega
  have e : Rat.divInt ((2 * (j : Int) + 1) * s) 2 / (s : Rat) = ((j : Int) : Rat) + 1 / 2 := by
    rw [Rat.divInt_eq_div]
    push_cast
    generalize (s : Rat) = s at *
    grind
  rw [e]
  refine floor_of ?_ ?_
  · grind
  · grind
section
variable {k : Nat} {st t : List Cell} {Q : R → List Cell → Prop}
theorem tiles_q {s : Int} {rows : List (List (Option Ik))} {n : Nat} (ht : Tl s rows n) (h : Q (.b true) st) : CallI (call Ps Gs wfL (k + 8)) 37 [.d (Pt.tiles s rows).d] st Q := by
  have hs := ht.s0
  have hs1 := ht.s1
  have hr := ht.r0
  have hr1 := ht.r1
  have hn := ht.n0
  have hn1 := ht.n1
  have bs : B 8 s := by unfold B; omega
  have hl3 : (rowsD rows).length = rows.length := List.length_map _
  refine into rfl rfl ?_
  and_intros
  · refine lp_inv (fun l c => ∃ u2 u3 u4, l = [some (.w (.d (Pt.tiles s rows).d)), some (.w (.d (.int s))), u2, u3, u4] ∧ st = c) ⟨_, _, _, rfl, rfl⟩ ?turn ?last
    case turn =>
      rintro x hx l c ⟨u2, u3, u4, rfl, rfl⟩
      obtain ⟨i, hi⟩ := List.getElem?_of_mem hx
      obtain ⟨hi1, rfl⟩ := rngD_get _ _ _ _ hi
      rw [show (0 : Int) + (i : Int) = (i : Int) by omega]
      have hi2 : i < rows.length := by rw [hl3] at hi1; simpa using hi1
      have gi : rows[i]? = some rows[i] := List.getElem?_eq_getElem hi2
      have li := ht.len rows[i] (List.getElem_mem hi2)
      cases rows with
      | nil => simp at hr
      | cons r rs =>
        have hl2 : (r.map tint).length = n := by rw [List.length_map]; exact ht.len r List.mem_cons_self
        and_intros
        · refine lp_inv (fun l c => ∃ u3 u4, l = [some (.w (.d (Pt.tiles s (r :: rs)).d)), some (.w (.d (.int s))), some (.i (i : Nat)), u3, u4] ∧ st = c) ⟨_, _, rfl, rfl⟩ ?turn2 ?last2
          case turn2 =>
            rintro x hx l c ⟨u3, u4, rfl, rfl⟩
            obtain ⟨j, hj⟩ := List.getElem?_of_mem hx
            obtain ⟨hj1, rfl⟩ := rngD_get _ _ _ _ hj
            rw [show (0 : Int) + (j : Int) = (j : Int) by omega]
            have hj2 : j < n := by rw [hl2] at hj1; simpa using hj1
            have hj3 : j < ((r :: rs)[i]).length := by rw [li]; exact hj2
            have bj : B 5 (2 * (j : Int) + 1) := by unfold B; omega
            have bi : B 5 (2 * (i : Int) + 1) := by simp only [List.length_cons] at hi2 hr1; unfold B; omega
            have mj : mulOk (2 * (j : Int) + 1) s = true := mulOk_of bj bs (by decide)
            have mi : mulOk (2 * (i : Int) + 1) s = true := mulOk_of bi bs (by decide)
            have tq : tileQ s (r :: rs) n (Rat.divInt ((2 * (j : Int) + 1) * s) 2) (Rat.divInt ((2 * (i : Int) + 1) * s) 2) = some ((r :: rs)[i][j]) := by
              unfold tileQ
              rw [mid_floor hs, mid_floor hs, Int.emod_eq_of_lt (Int.natCast_nonneg _) (by omega), Int.emod_eq_of_lt (Int.natCast_nonneg _) (by omega), Int.toNat_natCast, Int.toNat_natCast, gi]
              exact List.getElem?_eq_getElem hj3
            have gd : (rowsD (r :: rs))[i]? = some (.tuple (((r :: rs)[i]).map tint)) := rows_get gi
            have gd2 : (((r :: rs)[i]).map tint)[j]? = some (tint ((r :: rs)[i][j])) := by
              rw [List.getElem?_map, List.getElem?_eq_getElem hj3]
              rfl
            and_intros
            · refine low_q (by decide) ((bj.mulp bs).mono (by decide)) (by unfold B; decide) ?_
              and_intros
              · refine low_q (by decide) ((bi.mulp bs).mono (by decide)) (by unfold B; decide) ?_
                and_intros
                refine tiles_at ht (Hq.of (by decide) ((bj.mulp bs).mono' (by decide)) (by unfold B; decide)) (Hq.of (by decide) ((bi.mulp bs).mono' (by decide)) (by unfold B; decide)) tq ?_
                and_intros
                refine getP_of gd ?_
                and_intros
                refine getP_of gd2 ?_
                and_intros
                generalize (r :: rs)[i][j] = o
                cases o with
                | none =>
                  and_intros
                  exact ⟨.inl rfl, _, _, rfl, rfl⟩
                | some kk =>
                  and_intros
                  rw [show PyData.eqv (tint (some kk)) (tint (some kk)) = true from eqv_ik]
                  and_intros
                  exact ⟨.inl rfl, _, _, rfl, rfl⟩
              all_goals first | exact mi | exact mulOk_of (j := 3) (k := 4) (by unfold B; decide) (by unfold B; simp only [List.length_cons] at hi2 hr1; omega) (by decide)
            all_goals first | exact mj | exact mulOk_of (j := 3) (k := 4) (by unfold B; decide) (by unfold B; omega) (by decide)
          case last2 =>
            rintro l c ⟨u3, u4, rfl, rfl⟩
            and_intros
            exact ⟨.inl rfl, _, _, _, rfl, rfl⟩
        · rw [decide_eq_true_eq, hl2]
          omega
    case last =>
      rintro l c ⟨u2, u3, u4, rfl, rfl⟩
      and_intros
      exact h
  · rw [decide_eq_true_eq, hl3]
    omega
theorem in_of {a b : Int} (h : ¬ 200 < maxI (absI a) (absI b)) : -200 ≤ a ∧ a ≤ 200 ∧ -200 ≤ b ∧ b ≤ 200 := by
  unfold maxI absI at h
  split at h <;> split at h <;> split at h <;> omega
theorem law_ok {ns : List Int} (hl : ns.length ≤ 63) : CallI (call Ps Gs wfL (k + 12)) 38 [.known ns] [] (fun r _ => r = .b true) := by
  refine into_run rfl rfl ?_
  and_intros
  refine run_cut 1 (fun l c => ∃ a b : Int, l = [some (.w (.known ns)), some (.w (.cell 0)), none, none, none, none, none, none, none, none, none, none] ∧ c = [[.int a, .int b]]) ?cup fun l c h => ?rest
  case cup =>
    and_intros
    refine cup_spec hl fun a b => ?_
    and_intros
    exact ⟨a, b, rfl, rfl⟩
  case rest =>
    obtain ⟨a, b, rfl, rfl⟩ := h
    refine run_all ?_
    and_intros
    refine lp_invR (fun l c => ∃ u2 u3 u4 u5 u6 u7 u8 u9 u10, ∃ a b : Int, l = [some (.w (.known ns)), some (.w (.cell 0)), u2, u3, u4, u5, u6, u7, u8, u9, u10, none] ∧ c = [[.int a, .int b]]) ⟨_, _, _, _, _, _, _, _, _, _, _, rfl, rfl⟩ ?turn ?last
    case last =>
      rintro l c ⟨u2, u3, u4, u5, u6, u7, u8, u9, u10, a, b, rfl, rfl⟩
      and_intros
    case turn =>
      rintro x hx l c ⟨u2, u3, u4, u5, u6, u7, u8, u9, u10, a, b, rfl, rfl⟩
      obtain ⟨i, rfl⟩ := rng_int hx
      show RunI _ _ _ _ _ _ _
      refine run_cut 2 (fun l c => ∃ (x : Pt) (X Y : Rat) (a b : Int), Good x ∧ Hq 30 X ∧ Hq 30 Y ∧ l = [some (.w (.known ns)), some (.w (.cell 0)), some (.i i), some (.w (.d x.d)), some (.w (.d (.tuple [fq X, fq Y]))), u5, u6, u7, u8, u9, u10, none] ∧ c = [[.int a, .int b]]) ?draw fun l c h => ?rest2
      case draw =>
        and_intros
        refine lpnt_spec fun x a b hg => ?_
        and_intros
        refine place_q fun X1 Y1 a b hX1 hY1 => ?_
        and_intros
        refine near_q hg fun X2 Y2 a b hX2 hY2 => ?_
        and_intros
        refine some_spec (by simp) (by simp) fun z hz a b => ?_
        have hz : ∃ X Y : Rat, z = .tuple [fq X, fq Y] ∧ Hq 30 X ∧ Hq 30 Y := by
          simp only [List.mem_cons, List.not_mem_nil, or_false] at hz
          rcases hz with rfl | rfl
          · exact ⟨X1, Y1, rfl, hX1, hY1⟩
          · exact ⟨X2, Y2, rfl, hX2, hY2⟩
        obtain ⟨X, Y, rfl, hX, hY⟩ := hz
        and_intros
        exact ⟨x, X, Y, a, b, hg, hX, hY, rfl, rfl⟩
      case rest2 =>
        obtain ⟨x, X, Y, a, b, hg, hX, hY, rfl, rfl⟩ := h
        have sok := shown_ok (X := X) (Y := Y) hg
        refine run_cut 3 (fun l c => ∃ (a b : Int), l = [some (.w (.known ns)), some (.w (.cell 0)), some (.i i), some (.w (.d x.d)), some (.w (.d (.tuple [fq X, fq Y]))), some (.s (shownQ x X Y).shown), u6, u7, u8, u9, u10, none] ∧ c = [[.int a, .int b]]) ?like fun l c h => ?rest3
        case like =>
          and_intros
          refine paint_q hg (hX.mono (by decide)) (hY.mono (by decide)) ?_
          cases hg with
          | @tiles s rows n ht =>
            and_intros
            · refine tiles_q ht ?_
              and_intros
              refine like_q (.tiles ht) hX hY fun X' Y' a b hX' hY' he => ?_
              and_intros
              refine paint_q (.tiles ht) hX' hY' ?_
              rw [he]
              and_intros
              · exact ⟨_, _, rfl, rfl⟩
              all_goals exact sok
            all_goals exact sok
          | plain hc =>
            and_intros
            · refine like_q (.plain hc) hX hY fun X' Y' a b hX' hY' he => ?_
              and_intros
              refine paint_q (.plain hc) hX' hY' ?_
              rw [he]
              and_intros
              · exact ⟨_, _, rfl, rfl⟩
              all_goals exact sok
            all_goals exact sok
          | slope a1 a2 a3 a4 a5 a6 a7 a8 hne hc hd =>
            and_intros
            · refine like_q (.slope a1 a2 a3 a4 a5 a6 a7 a8 hne hc hd) hX hY fun X' Y' a b hX' hY' he => ?_
              and_intros
              refine paint_q (.slope a1 a2 a3 a4 a5 a6 a7 a8 hne hc hd) hX' hY' ?_
              rw [he]
              and_intros
              · exact ⟨_, _, rfl, rfl⟩
              all_goals exact sok
            all_goals exact sok
          | rings a1 a2 a3 a4 a5 a6 hc hd =>
            and_intros
            · refine like_q (.rings a1 a2 a3 a4 a5 a6 hc hd) hX hY fun X' Y' a b hX' hY' he => ?_
              and_intros
              refine paint_q (.rings a1 a2 a3 a4 a5 a6 hc hd) hX' hY' ?_
              rw [he]
              and_intros
              · exact ⟨_, _, rfl, rfl⟩
              all_goals exact sok
            all_goals exact sok
        case rest3 =>
          obtain ⟨a, b, rfl, rfl⟩ := h
          refine run_all ?_
          have next : ∀ u6 u7 u8 u9 u10, ∀ a b : Int, (Fl.nx = .nx ∨ Fl.nx = .ct) ∧ ∃ u2' u3' u4' u5' u6' u7' u8' u9' u10', ∃ a' b' : Int, ([some (.w (.known ns)), some (.w (.cell 0)), some (.i i), some (.w (.d x.d)), some (.w (.d (.tuple [fq X, fq Y]))), some (.s (shownQ x X Y).shown), u6, u7, u8, u9, u10, none] : Sl) = [some (.w (.known ns)), some (.w (.cell 0)), u2', u3', u4', u5', u6', u7', u8', u9', u10', none] ∧ [[PyData.int a, PyData.int b]] = [[PyData.int a', PyData.int b']] := fun u6 u7 u8 u9 u10 a b => ⟨.inl rfl, _, _, _, _, _, _, _, _, _, _, _, rfl, rfl⟩
          cases hg with
          | @tiles s rows n ht =>
            and_intros
            refine tol_b (r := false) (by decide +kernel) ?_
            and_intros
            exact next _ _ _ _ _ _ _
          | plain hc =>
            and_intros
            refine tol_b (r := false) (by decide +kernel) ?_
            and_intros
            exact next _ _ _ _ _ _ _
          | @rings p0 p1 s c d e a1 a2 a3 a4 a5 a6 hc hd =>
            and_intros
            refine tol_b (r := true) (by decide +kernel) ?_
            and_intros
            refine ends_rings (.rings a1 a2 a3 a4 a5 a6 hc hd) fun a b => ?_
            and_intros
            refine roll_spec (by decide) (by decide) fun r1 a b r10 r11 => ?_
            and_intros
            refine roll_spec (by decide) (by decide) fun r2 a b r20 r21 => ?_
            have bx : B 16 (r1 - 2) := by unfold B; omega
            have by' : B 16 (r2 - 2) := by unfold B; omega
            have o1 : Hq 3 (1 : Rat) := ⟨by decide, by decide⟩
            and_intros
            refine lc_c ?_
            and_intros
            refine k_dec (fun c1 => ?_) (fun c1 => ?_)
            · and_intros
              refine lc_n ?_
              and_intros
              exact next _ _ _ _ _ _ _
            · obtain ⟨n1, n2, n3, n4⟩ := in_of (a := p0 + (r1 - 2)) (b := p1 + (r2 - 2)) c1
              and_intros
              refine lc_n ?_
              and_intros
              have gm : Good (.rings (p0 + (r1 - 2)) (p1 + (r2 - 2)) s c d e) := .rings n1 n2 n3 n4 a5 a6 hc hd
              refine moved_q (u := 1) (j := 3) hX hY o1 (by decide) bx by' ?_
              and_intros
              refine paint_q (x := .rings (p0 + (r1 - 2)) (p1 + (r2 - 2)) s c d e) gm ((hX.add ((Hq.int bx (by decide)).mul o1)).mono (by decide)) ((hY.add ((Hq.int by' (by decide)).mul o1)).mono (by decide)) ?_
              rw [show shownQ (.rings (p0 + (r1 - 2)) (p1 + (r2 - 2)) s c d e) (X + ((r1 - 2 : Int) : Rat) * 1) (Y + ((r2 - 2 : Int) : Rat) * 1) = shownQ (.rings p0 p1 s c d e) X Y by
                show inksQ c d (broughtQ e (wayR _ _ _ _ _)) = inksQ c d (broughtQ e (wayR p0 p1 s X Y))
                rw [wayR_shift]]
              and_intros
              · exact next _ _ _ _ _ _ _
              all_goals exact sok
          | @slope p0 p1 q0 q1 c d e a1 a2 a3 a4 a5 a6 a7 a8 hne hc hd =>
            and_intros
            refine tol_b (r := true) (by decide +kernel) ?_
            and_intros
            refine ends_slope (.slope a1 a2 a3 a4 a5 a6 a7 a8 hne hc hd) fun a b => ?_
            and_intros
            refine roll_spec (by decide) (by decide) fun r1 a b r10 r11 => ?_
            and_intros
            refine roll_spec (by decide) (by decide) fun r2 a b r20 r21 => ?_
            have bx : B 16 (r1 - 2) := by unfold B; omega
            have by' : B 16 (r2 - 2) := by unfold B; omega
            have o1 : Hq 3 (1 : Rat) := ⟨by decide, by decide⟩
            and_intros
            refine lc_c ?_
            and_intros
            refine k_dec (fun c1 => ?_) (fun c1 => ?_)
            · and_intros
              refine lc_c ?_
              and_intros
              refine k_dec (fun c2 => ?_) (fun c2 => ?_)
              · and_intros
                exact next _ _ _ _ _ _ _
              · and_intros
                exact next _ _ _ _ _ _ _
            · and_intros
              refine lc_c ?_
              and_intros
              refine k_dec (fun c2 => ?_) (fun c2 => ?_)
              · and_intros
                exact next _ _ _ _ _ _ _
              · obtain ⟨n1, n2, n3, n4⟩ := in_of (a := p0 + (r1 - 2)) (b := p1 + (r2 - 2)) c1
                obtain ⟨m1, m2, m3, m4⟩ := in_of (a := q0 + (r1 - 2)) (b := q1 + (r2 - 2)) c2
                and_intros
                have gm : Good (.slope (p0 + (r1 - 2)) (p1 + (r2 - 2)) (q0 + (r1 - 2)) (q1 + (r2 - 2)) c d e) := .slope n1 n2 n3 n4 m1 m2 m3 m4 (by omega) hc hd
                refine moved_q (u := 1) (j := 3) hX hY o1 (by decide) bx by' ?_
                and_intros
                refine paint_q (x := .slope (p0 + (r1 - 2)) (p1 + (r2 - 2)) (q0 + (r1 - 2)) (q1 + (r2 - 2)) c d e) gm ((hX.add ((Hq.int bx (by decide)).mul o1)).mono (by decide)) ((hY.add ((Hq.int by' (by decide)).mul o1)).mono (by decide)) ?_
                rw [show shownQ (.slope (p0 + (r1 - 2)) (p1 + (r2 - 2)) (q0 + (r1 - 2)) (q1 + (r2 - 2)) c d e) (X + ((r1 - 2 : Int) : Rat) * 1) (Y + ((r2 - 2 : Int) : Rat) * 1) = shownQ (.slope p0 p1 q0 q1 c d e) X Y by
                  show inksQ c d (broughtQ e (wayS _ _ _ _ _ _)) = inksQ c d (broughtQ e (wayS p0 p1 q0 q1 X Y))
                  rw [wayS_shift]]
                and_intros
                · exact next _ _ _ _ _ _ _
                all_goals exact sok
theorem law_end {ns : List Int} (hl : ns.length ≤ 63) : wc (call (Ds.map (·.df)) Gs wfL 60 38 [.known ns] []) (fun r _ => r = .b true) := (law_ok (k := 48) hl).1
end
end Xp


namespace Xp
open PySem PySem.Spec PyProof.Rows L2
theorem hev : ∀ ns : List Int, ns.length ≤ 63 → ∃ st', call (Ds.map (·.df)) Gs wfL 60 38 [.known ns] [] = some (.w (.d (.bool true)), st') := fun ns hl => by
  obtain ⟨r, st, e, rfl⟩ := law_end hl
  exact ⟨st, e⟩
end Xp
open PySem PySem.W PySem.Calls PyProof.Rows
theorem PySem.Challenge.cw_exactpaint_k48_whole_paints_go_on_holds : PySem.Challenge.rw_exactpaint_k48_whole_paints_go_on.Holds := by
  w_on; o_law
  refine HandSHeadRun.head_imp (r := OpenLaw.row PySem.Challenge.rw_exactpaint_k48_whole_paints_go_on) (q := view (OpenLaw.row PySem.Challenge.rw_exactpaint_k48_whole_paints_go_on).prog [0, 47]) (H := Xp.hk) (ob := Xp.ob) (M := 20000) (loose := Xp.loose0 ++ Xp.loose1 ++ Xp.loose2) (d := HandSHeadRun.topDef (OpenLaw.row PySem.Challenge.rw_exactpaint_k48_whole_paints_go_on).prog 47) (kwd := []) Xp.ob_eq
    Xp.runs_top (by kernel_rfl) (by kernel_rfl) (by kernel_rfl) (by rfl) (by first | assumption | decide +kernel) (by decide +kernel) ⟨rfl, rfl, rfl, rfl, rfl, by decide +kernel⟩ ?hw ?hc
  case hw => w_witness2
  case hc =>
    refine Xp.end_walk (l := PySem.Challenge.rw_exactpaint_k48_whole_paints_go_on) (n := 63) (k := 60) (x := "script") rfl (by decide) (by kernel_rfl) ⟨rfl, by decide, by decide⟩ ?F
    intro w mg fa h Y G hmg0
    obtain ⟨K, KX, e, c⟩ := Y
    have hmg : mg ("law" : PySem.Str) = some (.ref fa) := by
      have e : (HandSHeadRun.topDef (OpenLaw.row PySem.Challenge.rw_exactpaint_k48_whole_paints_go_on).prog 47).name = ("law" : PySem.Str) := by kernel_rfl
      rw [← e]
      exact hmg0
    have Md := Xp.md_of (L := Xp.Lks) (G := Xp.Gs) (D := Xp.Ds) KX G e c rfl Xp.oks Xp.bsA
    obtain ⟨a, _, h1, h2, _⟩ := Md.fns 38 Xp.dLaw rfl
    have e1 : a = fa := by
      have z := h2.symm.trans hmg
      cases z
      rfl
    subst e1
    obtain ⟨fd, sp, hb, hsp, hF⟩ := Xp.law_of (P := (PySem.Challenge.rw_exactpaint_k48_whole_paints_go_on).prog) (w := w) (wf := Xp.wfL) (k := 60) (li := 38) (n := 63) (d := Xp.dLaw) KX G Md rfl rfl (Xp.bsA Xp.dLaw (List.mem_of_getElem? (i := 38) rfl)) Xp.hev
    cases h1
    exact ⟨K, fd, sp, KX, hb, hsp, hF⟩
