import PyProof.Rows.All
import Wide.All
import OpenK.AllK
import Wide.FinOn
import HandS.List
import HandS.Text
import PyProof.StrBlock
import PyProof.StrBlockL
import PyProof.EqLayable
import HandS.ForMost
import HandS.ForExc
import HandS.Deep
import HandS.IsInst
import HandS.TupAny
import HandS.TupMul
import HandS.Wide
import HandS.WideBits
import HandS.FStr
import HandS.StrMore
import HandS.Flow
import HandS.Style
import HandS.Lambda
import HandS.ExcCtx
import HandS.Set
import HandS.SetFor
import HandS.Strs
import HandS.HeadHook1
import KE.GoesEnum
import KE.GoesMore
import HandS.HeadHook2
import HandS.WordsExc
import HandS.HotCalls
import HandS.ExcIs
import HandS.HeadHook4
import HandS.HeadWalk
import KE.KStateDown
import Lean
import HandS.Head0
import HandS.Head1
import HandS.Head2
import HandS.HeadEnd
import PySem.Challenge.RW_votewoods_k05_whole_forests
set_option Elab.async false
set_option linter.all false
set_option maxRecDepth 100000
set_option exponentiation.threshold 2000
section
/-! A small language over pure data, and its interpreter: the core of the programs' defs, without positions. -/
namespace VW
open PySem

/-- data that never changes once made -/
abbrev D := PyData
/-- what a name holds: data, or the name of something that may change, or a list of such names; scr: the script, which is read alone -/
inductive U where
  | p (d : D)
  | ref (n : Nat)
  | rl (ns : List Nat)
  | scr (ds : List D)
/-- what may change: a list of data, a list of names, a dict, an object; tab: the table of code objects, which no program reads -/
inductive Cell where
  | pl (ds : List D)
  | rl (ns : List Nat)
  | dct (kvs : List (D × D))
  | ins (c : Str) (fs : List (Str × U))
  | tab (P : Addr) (q : Str)
abbrev Mem := List Cell
abbrev Env := List (Option U)

/-- an outcome -/
inductive R (α : Type) where
  | ok (a : α) (M : Mem)
  | exc (c : Str) (M : Mem)
  | bad
def R.bind {α β : Type} : R α → (α → Mem → R β) → R β
  | .ok a M, f => f a M
  | .exc c M, _ => .exc c M
  | .bad, _ => .bad
/-- .. where no exception may leave -/
def R.calm {α : Type} : R α → R α
  | .exc _ _ => .bad
  | r => r
def R.of {α : Type} (o : Option α) (M : Mem) : R α := match o with
  | some a => .ok a M
  | none => .bad
abbrev Fn := Str → List U → Mem → R U

inductive BO where
  | add | sub | mul | fdiv | mod | pow
inductive CO where
  | eq | ne | lt | le | gt | ge | isin | notin | isN | notN
/-- built-in functions and types, called -/
inductive Pr where
  | len | abs | max | min | sum | all | any | sorted | sortedSet | tuple | list | str | int
  | isInt | isBool | isStr | isTuple
inductive Mt where
  | find | find2 | index | join | split | get
/-- what is walked -/
inductive IT where
  | seq | range1 | range2 | enum
/-- a target: a name's slot, a flat tuple of slots -/
inductive Tg where
  | nm (i : Nat)
  | tp (is : List Nat)

mutual
inductive CE where
  | var (i : Nat)
  | lit (d : D)
  | glo (x : Str) (d : D)
  | tup (es : CEs)
  | lst (es : CEs)
  | lstR (es : CEs)
  | dctR
  | bin (o : BO) (a b : CE)
  | neg (a : CE)
  | cmp (o : CO) (a b : CE)
  | chain (o p : CO) (a b c : CE)
  | boo (isAnd : Bool) (es : CEs)
  | nt (a : CE)
  | ite (c a b : CE)
  | ix (a i : CE)
  | sl (a : CE) (lo hi : CEs)
  | call (f : Str) (es : CEs)
  | off
  | told (t g : Str) (es : CEs)
  | prim (p : Pr) (es : CEs)
  | met (m : Mt) (o : CE) (es : CEs)
  | lc (g : Tg) (own : List Nat) (it : IT) (src : CEs) (cs : CEs) (elt : CE)
inductive CEs where
  | nil
  | cons (a : CE) (r : CEs)
end

mutual
inductive CS where
  | asg (g : Tg) (e : CE)
  | par (i j : Nat) (a b : CE)
  | par3 (i j l : Nat) (a b c : CE)
  | new (i : Nat) (e : CE)
  | app (o e : CE)
  | sti (o k e : CE)
  | exp (e : CE)
  | ret (e : CE)
  | iff (c : CE) (a b : CSs)
  | whl (c : CE) (b : CSs)
  | for_ (g : Tg) (it : IT) (src : CEs) (b : CSs)
  | rai (c : Str)
inductive CSs where
  | nil
  | cons (s : CS) (r : CSs)
end

/-! ### values -/
/-- plain data -/
def pure? : U → Option D
  | .p d => some d
  | _ => none
/-- what a name holds now, as data -/
def val (M : Mem) : U → Option D
  | .p d => some d
  | .ref n => match M[n]? with
    | some (.pl ds) => some (.list ds)
    | _ => none
  | .rl _ => none
  | .scr _ => none
/-- .. where it is read alone -/
def rdv (M : Mem) : U → Option D
  | .scr ds => some (.list ds)
  | u => val M u
/-- names, where it is a list of names -/
def names (M : Mem) : U → Option (List Nat)
  | .p _ => none
  | .ref n => match M[n]? with
    | some (.rl ns) => some ns
    | _ => none
  | .rl ns => some ns
  | .scr _ => none
/-- the items of a list, of a tuple -/
def seqD : D → Option (List D)
  | .tuple xs => some xs
  | .list xs => some xs
  | _ => none
def signs (x : Str) : List D := x.cps.toList.map fun c => .str ⟨#[c]⟩
def iterD : D → Option (List D)
  | .str x => some (signs x)
  | .tuple xs => some xs
  | .list xs => some xs
  | _ => none

/-! ### data are told apart -/
mutual
def same : D → D → Bool
  | .none, .none => true
  | .bool a, .bool b => a == b
  | .int a, .int b => a == b
  | .str a, .str b => a == b
  | .list a, .list b => sames a b
  | .tuple a, .tuple b => sames a b
  | .dict a, .dict b => sameP a b
  | _, _ => false
def sames : List D → List D → Bool
  | [], [] => true
  | x :: xs, y :: ys => same x y && sames xs ys
  | _, _ => false
def sameP : List (D × D) → List (D × D) → Bool
  | [], [] => true
  | (x, x') :: xs, (y, y') :: ys => same x y && (same x' y' && sameP xs ys)
  | _, _ => false
end
mutual
theorem same_eq : ∀ a b : D, same a b = true → a = b
  | .none, b, h => by cases b <;> simp_all [same]
  | .bool _, b, h => by cases b <;> simp_all [same]
  | .int _, b, h => by cases b <;> simp_all [same]
  | .str _, b, h => by cases b <;> simp_all [same]
  | .list a, b, h => by
    cases b with
    | list b => rw [same] at h; rw [sames_eq a b h]
    | _ => simp [same] at h
  | .tuple a, b, h => by
    cases b with
    | tuple b => rw [same] at h; rw [sames_eq a b h]
    | _ => simp [same] at h
  | .dict a, b, h => by
    cases b with
    | dict b => rw [same] at h; rw [sameP_eq a b h]
    | _ => simp [same] at h
theorem sames_eq : ∀ a b : List D, sames a b = true → a = b
  | [], b, h => by cases b <;> simp_all [sames]
  | x :: xs, b, h => by
    cases b with
    | nil => simp [sames] at h
    | cons y ys =>
      rw [sames, Bool.and_eq_true] at h
      rw [same_eq x y h.1, sames_eq xs ys h.2]
theorem sameP_eq : ∀ a b : List (D × D), sameP a b = true → a = b
  | [], b, h => by cases b <;> simp_all [sameP]
  | (x, x') :: xs, b, h => by
    cases b with
    | nil => simp [sameP] at h
    | cons y ys =>
      obtain ⟨y, y'⟩ := y
      rw [sameP, Bool.and_eq_true, Bool.and_eq_true] at h
      rw [same_eq x y h.1, same_eq x' y' h.2.1, sameP_eq xs ys h.2.2]
end
mutual
theorem same_refl : ∀ a : D, same a a = true
  | .none => by simp [same]
  | .bool _ => by simp [same]
  | .int _ => by simp [same]
  | .str _ => by simp [same]
  | .list a => by rw [same]; exact sames_refl a
  | .tuple a => by rw [same]; exact sames_refl a
  | .dict a => by rw [same]; exact sameP_refl a
theorem sames_refl : ∀ a : List D, sames a a = true
  | [] => by simp [sames]
  | x :: xs => by rw [sames, same_refl x, sames_refl xs]; rfl
theorem sameP_refl : ∀ a : List (D × D), sameP a a = true
  | [] => by simp [sameP]
  | (x, x') :: xs => by rw [sameP, same_refl x, same_refl x', sameP_refl xs]; rfl
end
instance : DecidableEq D := fun a b => if h : same a b = true then isTrue (same_eq a b h) else isFalse (fun e => h (by rw [e]; exact same_refl b))

/-! ### operators -/
def mulOk (a b : Int) : Bool := decide (a.natAbs < 2 ^ 64) || decide (b.natAbs < 2 ^ 64) || (decide (a.natAbs.log2 < 500000) && decide (b.natAbs.log2 < 500000))
def rept {α : Type} (k : Int) (xs : List α) : List α := (List.replicate k.toNat xs).flatten
def bop : BO → D → D → Option D
  | .add, .int a, .int b => some (.int (a + b))
  | .sub, .int a, .int b => some (.int (a - b))
  | .mul, .int a, .int b => if mulOk a b then some (.int (a * b)) else none
  | .fdiv, .int a, .int b => if 0 < b ∧ b.natAbs.log2 < 9000 then some (.int (a / b)) else none
  | .mod, .int a, .int b => if 0 < b then some (.int (a % b)) else none
  | .pow, .int a, .int b => if 0 ≤ b ∧ b ≤ 1000 ∧ a.natAbs < 2 ^ 64 then some (.int (a ^ b.toNat)) else none
  | .add, .str x, .str y => if x.length + y.length ≤ sizeLine then some (.str (x ++ y)) else none
  | .add, .tuple xs, .tuple ys => if xs.length + ys.length ≤ sizeLine then some (.tuple (xs ++ ys)) else none
  | .mul, .tuple xs, .int k => if xs ≠ [] ∧ 2 ≤ k ∧ k ≤ 1000 ∧ xs.length ≤ 1000 then some (.tuple (rept k xs)) else none
  | .mul, .list xs, .int k => if 0 ≤ k ∧ k ≤ 1000 ∧ xs.length ≤ 1000 then some (.list (rept k xs)) else none
  | .add, .list xs, .list ys => if xs.length + ys.length ≤ sizeLine then some (.list (xs ++ ys)) else none
  | _, _, _ => none
/-- == of data -/
def eqD (x y : D) : Option Bool := if SeqAt.shaped x && SeqAt.shaped y then some (PyData.eqv x y) else none
def flatD : D → Bool
  | .none => true
  | .bool _ => true
  | .int _ => true
  | .str _ => true
  | _ => false
/-- x in a list, a tuple, a text -/
def inD (x : D) : D → Option Bool
  | .str y => match x with
    | .str x => some (!(Builtin.Str.occurrences y x 0 y.length 1).isEmpty)
    | _ => none
  | .tuple zs => if flatD x && zs.all flatD then some (zs.any fun z => PyData.eqv z x) else none
  | .list zs => if SeqAt.shaped x && SeqAt.shaped (.list zs) then some (zs.any fun z => PyData.eqv z x) else none
  | _ => none
def isNone : D → Bool
  | .none => true
  | _ => false
def cop : CO → D → D → Option Bool
  | .eq, a, b => eqD a b
  | .ne, a, b => (eqD a b).map (!·)
  | .lt, .int a, .int b => some (decide (a < b))
  | .le, .int a, .int b => some (decide (a ≤ b))
  | .gt, .int a, .int b => some (decide (b < a))
  | .ge, .int a, .int b => some (decide (b ≤ a))
  | .lt, .str a, .str b => some (decide (a.cps.toList < b.cps.toList))
  | .isin, a, b => inD a b
  | .notin, a, b => (inD a b).map (!·)
  | .isN, a, .none => some (isNone a)
  | .notN, a, .none => some (!isNone a)
  | _, _, _ => none
def ixD : D → D → Option D
  | .str x, .int i => if x.length ≤ sizeLine then (L2.atI x.cps.toList i).map fun c => .str ⟨#[c]⟩ else none
  | .tuple xs, .int i => L2.atI xs i
  | .list xs, .int i => L2.atI xs i
  | _, _ => none
/-- the part of a sequence between two places -/
def cut {α : Type} (xs : List α) (lo hi : Option Int) : List α := (xs.drop (HT.sIx xs.length 0 lo)).take (HT.sIx xs.length xs.length hi - HT.sIx xs.length 0 lo)

/-! ### names -/
def setAll (ρ : Env) : List Nat → List D → Option Env
  | [], [] => some ρ
  | i :: is, d :: ds => setAll (ρ.set i (some (.p d))) is ds
  | _, _ => none
def put (g : Tg) (u : U) (ρ : Env) : Option Env := match g with
  | .nm i => some (ρ.set i (some u))
  | .tp is => match u with
    | .p (.tuple ds) => setAll ρ is ds
    | _ => none
def wipeE (ρ : Env) : List Nat → Env
  | [] => ρ
  | v :: vs => (wipeE ρ vs).set v none

/-! ### built-in functions -/
def intsD : List D → Option (List Int)
  | [] => some []
  | .int i :: r => (intsD r).map (i :: ·)
  | _ :: _ => none
def boolsD : List D → Option (List Bool)
  | [] => some []
  | .bool b :: r => (boolsD r).map (b :: ·)
  | _ :: _ => none
def strsD : List D → Option (List Str)
  | [] => some []
  | .str b :: r => (strsD r).map (b :: ·)
  | _ :: _ => none
def maxI : List Int → Option Int
  | [] => none
  | x :: xs => some (xs.foldl max x)
def minI : List Int → Option Int
  | [] => none
  | x :: xs => some (xs.foldl min x)
def insI (x : Int) : List Int → List Int
  | [] => [x]
  | y :: ys => if x ≤ y then x :: y :: ys else y :: insI x ys
def sortI (xs : List Int) : List Int := xs.foldr insI []
def dedI : List Int → List Int
  | [] => []
  | x :: xs => if x ∈ xs then dedI xs else x :: dedI xs
def lenD : D → Option Int
  | .str x => if x.length ≤ sizeLine then some x.length else none
  | .tuple xs => some xs.length
  | .list xs => some xs.length
  | _ => none

def isIntD : D → Bool
  | .int _ => true
  | .bool _ => true
  | _ => false
def isBoolD : D → Bool
  | .bool _ => true
  | _ => false
def isStrD : D → Bool
  | .str _ => true
  | _ => false
def isTupD : D → Bool
  | .tuple _ => true
  | _ => false
def prim : Pr → List D → Option D
  | .len, [d] => (lenD d).map .int
  | .abs, [.int i] => some (.int (if i < 0 then -i else i))
  | .max, [.int i, .int j] => some (.int (if j > i then j else i))
  | .min, [.int i, .int j] => some (.int (if j < i then j else i))
  | .max, [d] => ((seqD d).bind intsD).bind fun ns => (maxI ns).map .int
  | .min, [d] => ((seqD d).bind intsD).bind fun ns => (minI ns).map .int
  | .sum, [.list ds] => (intsD ds).map fun ns => .int ns.sum
  | .all, [.list ds] => (boolsD ds).map fun bs => .bool (bs.all id)
  | .any, [.list ds] => (boolsD ds).map fun bs => .bool (bs.any id)
  | .sorted, [d] => ((seqD d).bind intsD).bind fun ns => if ns.length < 64 then some (.list ((sortI ns).map .int)) else none
  | .sortedSet, [d] => ((seqD d).bind intsD).bind fun ns => if ns.length < 64 then some (.list ((sortI (dedI ns)).map .int)) else none
  | .tuple, [d] => (seqD d).map .tuple
  | .list, [d] => (seqD d).map .list
  | .int, [.int i] => some (.int i)
  | .int, [.bool b] => some (.int (if b then 1 else 0))
  | .isInt, [d] => some (.bool (isIntD d))
  | .isBool, [d] => some (.bool (isBoolD d))
  | .isStr, [d] => some (.bool (isStrD d))
  | .isTuple, [d] => some (.bool (isTupD d))
  | _, _ => none

/-- the first place where it holds -/
def findIx {α : Type} (p : α → Bool) : List α → Option Nat
  | [] => none
  | x :: xs => if p x then some 0 else (findIx p xs).map (· + 1)
def indexD (ys : List D) (z : D) : Option D := if SeqAt.shaped (.list ys) && SeqAt.shaped z then (findIx (fun y => PyData.eqv y z) ys).map fun j => .int (j : Nat) else none
def meth : Mt → D → List D → Option D
  | .find, .str x, [.str y] => some (.int (Txt.find x y))
  | .index, .list ys, [z] => indexD ys z
  | .index, .tuple ys, [z] => indexD ys z
  | .join, .str x, [d] => ((seqD d).bind strsD).bind fun ys => if x.length * ys.length + (ys.map Str.length).sum ≤ 16777216 then some (.str (Txt.join x ys)) else none
  | _, _, _ => none

/-- whose method it is -/
def recv : Mt → D → Bool
  | .find, .str _ => true
  | .join, .str _ => true
  | .index, .list _ => true
  | .index, .tuple _ => true
  | _, _ => false
def recvU (M : Mem) (m : Mt) (x : U) : Bool := match val M x with
  | some d => recv m d
  | none => false
/-! ### expressions -/
def optI : List D → Option (Option Int)
  | [] => some none
  | [.int i] => some (some i)
  | _ => none
def slD (d : D) (l h : Option Int) : Option D := match d with
  | .str x => if x.length ≤ sizeLine then some (.str (L2.cutS x l h)) else none
  | .tuple xs => some (.tuple (cut xs l h))
  | .list xs => some (.list (cut xs l h))
  | _ => none
def up (lo : Int) (n : Nat) : List D := (List.range n).map fun i => .int (lo + (i : Nat))
def small62 (i : Int) : Bool := decide (-(2 ^ 62) ≤ i) && decide (i < 2 ^ 62)
def pairUp (i : Nat) : List D → List D
  | [] => []
  | d :: ds => .tuple [.int (i : Nat), d] :: pairUp (i + 1) ds
def walkD : IT → List D → Option (List D)
  | .seq, [d] => iterD d
  | .range1, [.int j] => if small62 j then some (up 0 j.toNat) else none
  | .range2, [.int i, .int j] => if small62 i && small62 j then some (up i (j - i).toNat) else none
  | .enum, [d] => (seqD d).map (pairUp 0)
  | _, _ => none
def vals (M : Mem) : List U → Option (List D)
  | [] => some []
  | u :: us => match rdv M u, vals M us with
    | some d, some ds => some (d :: ds)
    | _, _ => none
def pures : List U → Option (List D)
  | [] => some []
  | .p d :: us => (pures us).map (d :: ·)
  | _ :: _ => none
def refs : List U → Option (List Nat)
  | [] => some []
  | .ref n :: us => (refs us).map (n :: ·)
  | _ :: _ => none
/-- the items that are walked -/
def walk (M : Mem) (it : IT) (us : List U) : Option (List U) := match it, us with
  | .seq, [.rl ns] => some (ns.map .ref)
  | it, us => ((vals M us).bind (walkD it)).map (·.map .p)
/-- what is walked stands as it stood -/
def stands (M0 M : Mem) : List U → Bool
  | [.ref n] => match M0[n]?, M[n]? with
    | some (.pl xs), some (.pl ys) => sames xs ys
    | _, _ => false
  | _ => true

/-- a walk that makes a list -/
def gather (f : U → Mem → R (Option U)) : List U → List U → Mem → R (List U)
  | [], acc, M => .ok acc M
  | x :: xs, acc, M => (f x M).bind fun o M1 => match o with
    | some y => if acc.length < sizeLine then gather f xs (acc ++ [y]) M1 else .bad
    | none => gather f xs acc M1
/-- a list of data, or of names -/
def mkL (us : List U) : Option U := match pures us with
  | some ds => some (.p (.list ds))
  | none => (refs us).map .rl
def ixU (M : Mem) (x y : U) : Option U := match names M x, val M y with
  | some ns, some (.int i) => (L2.atI ns i).map .ref
  | _, _ => match rdv M x, val M y with
    | some d, some e => (ixD d e).map .p
    | _, _ => none
def op2 {α : Type} (M : Mem) (f : D → D → Option α) (x y : U) : Option α := match val M x, val M y with
  | some d, some e => f d e
  | _, _ => none
def op2r {α : Type} (M : Mem) (f : D → D → Option α) (x y : U) : Option α := match rdv M x, rdv M y with
  | some d, some e => f d e
  | _, _ => none
def lift (o : Option D) : Option U := o.map .p
def liftB (o : Option Bool) : Option U := o.map fun b => .p (.bool b)

mutual
def evE (Φ : Fn) : CE → Env → Mem → R U
  | .var i, ρ, M => match ρ[i]? with
    | some (some u) => .ok u M
    | _ => .bad
  | .lit d, _, M => .ok (.p d) M
  | .glo _ d, _, M => .ok (.p d) M
  | .tup es, ρ, M => (evL Φ es ρ M).bind fun us M => match pures us with
    | some ds => if ds.length ≤ sizeLine then .ok (.p (.tuple ds)) M else .bad
    | none => .bad
  | .lst es, ρ, M => (evL Φ es ρ M).bind fun us M => if us.length ≤ sizeLine then .of (mkL us) M else .bad
  | .lstR es, ρ, M => (evL Φ es ρ M).bind fun us M => match pures us with
    | some ds => if ds.length ≤ sizeLine then .ok (.ref M.length) (M ++ [.pl ds]) else .bad
    | none => .bad
  | .dctR, _, M => .ok (.ref M.length) (M ++ [.dct []])
  | .bin o a b, ρ, M => (evE Φ a ρ M).bind fun x M => (evE Φ b ρ M).bind fun y M => .of (lift (op2 M (bop o) x y)) M
  | .neg a, ρ, M => (evE Φ a ρ M).bind fun x M => match x with
    | .p (.int i) => .ok (.p (.int (-i))) M
    | _ => .bad
  | .cmp o a b, ρ, M => (evE Φ a ρ M).bind fun x M => (evE Φ b ρ M).bind fun y M => .of (liftB (op2r M (cop o) x y)) M
  | .chain o p a b c, ρ, M => (evE Φ a ρ M).bind fun x M => (evE Φ b ρ M).bind fun y M => match op2r M (cop o) x y with
    | some true => (evE Φ c ρ M).bind fun z M => .of (liftB (op2r M (cop p) y z)) M
    | some false => .ok (.p (.bool false)) M
    | none => .bad
  | .boo k es, ρ, M => evB Φ k es ρ M
  | .nt a, ρ, M => (evE Φ a ρ M).bind fun x M => match x with
    | .p (.bool b) => .ok (.p (.bool (!b))) M
    | _ => .bad
  | .ite c a b, ρ, M => (evE Φ c ρ M).bind fun x M => match x with
    | .p (.bool true) => evE Φ a ρ M
    | .p (.bool false) => evE Φ b ρ M
    | _ => .bad
  | .ix a i, ρ, M => (evE Φ a ρ M).bind fun x M => (evE Φ i ρ M).bind fun y M => .of (ixU M x y) M
  | .sl a lo hi, ρ, M => (evE Φ a ρ M).bind fun x M => (evL Φ lo ρ M).bind fun l M => match (pures l).bind optI with
    | some l => (evL Φ hi ρ M).bind fun h M => match (pures h).bind optI with
      | some h => match val M x with
        | some d => .of (lift (slD d l h)) M
        | none => .bad
      | none => .bad
    | none => .bad
  | .call f es, ρ, M => (evL Φ es ρ M).bind fun us M => Φ f us M
  | .off, _, _ => .bad
  | .told t _ es, ρ, M => (evL Φ es ρ M).calm.bind fun us M => Φ t us M
  | .prim p es, ρ, M => (evL Φ es ρ M).bind fun us M => .of (lift ((vals M us).bind (prim p))) M
  | .met m o es, ρ, M => (evE Φ o ρ M).bind fun x M => if recvU M m x then (evL Φ es ρ M).bind fun us M => (match val M x, vals M us with
    | some d, some ds => .of (lift (meth m d ds)) M
    | _, _ => .bad) else .bad
  | .lc g own it src cs elt, ρ, M => (evL Φ src ρ M).bind fun us M => match walk M it us with
    | some xs => ((gather (fun x M1 => match put g x (wipeE ρ own) with
        | some ρ1 => if stands M M1 us then (evB Φ true cs ρ1 M1).calm.bind fun t M2 => match t with
          | .p (.bool true) => (evE Φ elt ρ1 M2).calm.bind fun y M3 => .ok (some y) M3
          | .p (.bool false) => .ok none M2
          | _ => .bad else .bad
        | none => .bad) xs [] M).bind fun ys M1 => if stands M M1 us then .of (mkL ys) M1 else .bad)
    | none => .bad
def evL (Φ : Fn) : CEs → Env → Mem → R (List U)
  | .nil, _, M => .ok [] M
  | .cons a r, ρ, M => (evE Φ a ρ M).bind fun x M => (evL Φ r ρ M).bind fun xs M => .ok (x :: xs) M
/-- and, or of bools -/
def evB (Φ : Fn) (k : Bool) : CEs → Env → Mem → R U
  | .nil, _, M => .ok (.p (.bool k)) M
  | .cons a r, ρ, M => (evE Φ a ρ M).bind fun x M => match x with
    | .p (.bool b) => if b = k then evB Φ k r ρ M else .ok (.p (.bool b)) M
    | _ => .bad
end

/-! ### statements -/
inductive SR where
  | next (ρ : Env) (M : Mem)
  | ret (u : U) (M : Mem)
  | exc (c : Str) (M : Mem)
  | bad
def SR.bind : SR → (Env → Mem → SR) → SR
  | .next ρ M, f => f ρ M
  | .ret d M, _ => .ret d M
  | .exc c M, _ => .exc c M
  | .bad, _ => .bad
def R.thn {α : Type} : R α → (α → Mem → SR) → SR
  | .ok a M, f => f a M
  | .exc c M, _ => .exc c M
  | .bad, _ => .bad
def SR.of (o : Option Env) (M : Mem) : SR := match o with
  | some ρ => .next ρ M
  | none => .bad
def whileF (c : Env → Mem → R U) (b : Env → Mem → SR) : Nat → Env → Mem → SR
  | 0, _, _ => .bad
  | n + 1, ρ, M => (c ρ M).thn fun x M => match x with
    | .p (.bool true) => (b ρ M).bind fun ρ M => whileF c b n ρ M
    | .p (.bool false) => .next ρ M
    | _ => .bad
def forF (ok : Mem → Bool) (g : Tg) (b : Env → Mem → SR) : List U → Env → Mem → SR
  | [], ρ, M => if ok M then .next ρ M else .bad
  | x :: xs, ρ, M => if ok M then (match put g x ρ with
    | some ρ1 => (b ρ1 M).bind fun ρ2 M2 => forF ok g b xs ρ2 M2
    | none => .bad) else .bad
/-- xs.append(y) -/
def appC (c : Option Cell) (y : U) : Option Cell := match c, y with
  | some (.pl ds), .p d => if ds.length < sizeLine then some (.pl (ds ++ [d])) else none
  | some (.pl []), .ref m => some (.rl [m])
  | some (.rl ns), .ref m => if ns.length < sizeLine then some (.rl (ns ++ [m])) else none
  | _, _ => none
def isLstC : Option Cell → Bool
  | some (.pl _) => true
  | some (.rl _) => true
  | _ => false
/-- xs[i] = y -/
def stiC (c : Option Cell) (k y : U) : Option Cell := match c, k, y with
  | some (.pl ds), .p (.int i), .p d => (L2.ixN ds.length i).map fun j => .pl (ds.set j d)
  | _, _, _ => none

mutual
def exS (Φ : Fn) : CS → Env → Mem → SR
  | .asg g e, ρ, M => (evE Φ e ρ M).thn fun x M => .of (put g x ρ) M
  | .par i j a b, ρ, M => (evE Φ a ρ M).thn fun x M => (evE Φ b ρ M).thn fun y M => .next ((ρ.set i (some x)).set j (some y)) M
  | .par3 i j l a b c, ρ, M => (evE Φ a ρ M).thn fun x M => (evE Φ b ρ M).thn fun y M => (evE Φ c ρ M).thn fun z M => .next (((ρ.set i (some x)).set j (some y)).set l (some z)) M
  | .new i e, ρ, M => (evE Φ e ρ M).thn fun x M => match x with
    | .p (.list xs) => .next (ρ.set i (some (.ref M.length))) (M ++ [.pl xs])
    | _ => .bad
  | .app o e, ρ, M => (evE Φ o ρ M).thn fun x M => match x with
    | .ref n => if isLstC M[n]? then (evE Φ e ρ M).thn fun y M => match appC M[n]? y with
      | some c => .next ρ (M.set n c)
      | none => .bad else .bad
    | _ => .bad
  | .sti o k e, ρ, M => (evE Φ e ρ M).thn fun y M => (evE Φ o ρ M).thn fun x M => (evE Φ k ρ M).thn fun z M => match x with
    | .ref n => match stiC M[n]? z y with
      | some c => .next ρ (M.set n c)
      | none => .bad
    | _ => .bad
  | .exp e, ρ, M => (evE Φ e ρ M).thn fun _ M => .next ρ M
  | .ret e, ρ, M => (evE Φ e ρ M).thn fun x M => .ret x M
  | .iff c a b, ρ, M => (evE Φ c ρ M).thn fun x M => match x with
    | .p (.bool true) => exL Φ a ρ M
    | .p (.bool false) => exL Φ b ρ M
    | _ => .bad
  | .whl c b, ρ, M => whileF (evE Φ c) (exL Φ b) 1000000 ρ M
  | .for_ g it src b, ρ, M => (evL Φ src ρ M).thn fun us M => match walk M it us with
    | some xs => forF (fun M1 => stands M M1 us) g (exL Φ b) xs ρ M
    | none => .bad
  | .rai c, _, M => .exc c M
def exL (Φ : Fn) : CSs → Env → Mem → SR
  | .nil, ρ, M => .next ρ M
  | .cons s r, ρ, M => (exS Φ s ρ M).bind fun ρ M => exL Φ r ρ M
end

/-! ### defs -/
structure CDef where
  ps : List Str
  N : List Str
  keep : Bool
  body : CSs
/-- the data behind names that are given up -/
def lists (M : Mem) : List Nat → Option (List D)
  | [] => some []
  | n :: ns => match M[n]?, lists M ns with
    | some (.pl ds), some r => some (.list ds :: r)
    | _, _ => none
/-- what is handed out: names from n on are given up, what they hold is data from now on -/
def frz (M : Mem) (n : Nat) : U → Option U
  | .p d => some (.p d)
  | .ref m => if m < n then some (.ref m) else match M[m]? with
    | some (.pl ds) => some (.p (.list ds))
    | some (.rl ns) => if ns.all (n ≤ ·) then (lists M ns).map fun ds => .p (.list ds) else none
    | _ => none
  | .rl ns => if ns.all (· < n) then some (.rl ns) else none
  | .scr ds => some (.scr ds)
def U.below (n : Nat) : U → Bool
  | .p _ => true
  | .ref m => decide (m < n)
  | .rl ns => ns.all (· < n)
  | .scr _ => true
def Cell.below (n : Nat) : Cell → Bool
  | .pl _ => true
  | .rl ns => ns.all (· < n)
  | .dct _ => true
  | .ins _ fs => fs.all fun f => f.2.below n
  | .tab _ _ => true
/-- behind a call: the names that it made are given up -/
def leave (n : Nat) (keep : Bool) (u : U) (M : Mem) : R U :=
  if keep then .ok u M else if (M.take n).all (Cell.below n) then .of (frz M n u) (M.take n) else .bad
def leaveX (n : Nat) (keep : Bool) (c : Str) (M : Mem) : R U :=
  if keep then .exc c M else if (M.take n).all (Cell.below n) then .exc c (M.take n) else .bad
def runDef (Φ : Fn) (d : CDef) (us : List U) (M : Mem) : R U :=
  if us.length = d.ps.length then match exL Φ d.body (us.map some ++ List.replicate (d.N.length - us.length) none) M with
    | .ret u M' => leave M.length d.keep u M'
    | .next _ M' => leave M.length d.keep (.p .none) M'
    | .exc c M' => leaveX M.length d.keep c M'
    | .bad => .bad
  else .bad
def run (T : List (Str × CDef)) : Nat → Fn
  | 0 => fun _ _ _ => .bad
  | k + 1 => fun f us M => match T.lookup f with
    | some d => runDef (run T k) d us M
    | none => .bad
end VW
end
section
set_option maxHeartbeats 1000000
/-! What stands in the heap for data; outcomes; the readings. -/
namespace VW
open PySem PySem.Spec L2

mutual
/-- the value v stands for the data d: F tells the lists that never change any more -/
inductive RpD (F : Addr → Prop) (H : Hp) : V → D → Prop
  | non : RpD F H .non .none
  | bl (b : Bool) : RpD F H (.bl b) (.bool b)
  | int (i : Int) : RpD F H (.int i) (.int i)
  | str (x : Str) : RpD F H (.str x) (.str x)
  | tup {a : Addr} {o : Obj} {vs : List V} {ds : List D} : H a = some (.frz o (.tup vs)) → o.dict = none → RpDs F H vs ds → RpD F H (.ref a) (.tuple ds)
  | lst {a : Addr} {vs : List V} {ds : List D} : F a → H a = some (.lst vs) → RpDs F H vs ds → RpD F H (.ref a) (.list ds)
inductive RpDs (F : Addr → Prop) (H : Hp) : List V → List D → Prop
  | nil : RpDs F H [] []
  | cons {v : V} {vs : List V} {d : D} {ds : List D} : RpD F H v d → RpDs F H vs ds → RpDs F H (v :: vs) (d :: ds)
end
theorem RpDs.length {F : Addr → Prop} {H : Hp} : ∀ {vs : List V} {ds : List D}, RpDs F H vs ds → vs.length = ds.length
  | _, _, .nil => rfl
  | _, _, .cons _ t => by rw [List.length_cons, List.length_cons, RpDs.length t]
/-- nothing stands there, but a table perhaps -/
def NT (H : Hp) (a : Addr) : Prop := ∀ o, H a = some o → ∃ ps, o = .tbl ps
theorem NT.of {H : Hp} {a : Addr} (h : H a = none) : NT H a := fun o e => by rw [h] at e; cases e
theorem NT.no {H : Hp} {a : Addr} {o : HO} {P : Prop} (n : NT H a) (h : H a = some o) (ht : ∀ ps, o ≠ .tbl ps) : P := let ⟨ps, e⟩ := n o h; absurd e (ht ps)
theorem nt_lst {vs : List V} : ∀ ps, HO.lst vs ≠ .tbl ps := fun _ z => by cases z
/-- what was, stays -/
structure Le (F : Addr → Prop) (H : Hp) (F' : Addr → Prop) (H' : Hp) : Prop where
  sub : ∀ a, F a → F' a
  rds : ∀ a u, F a → H a = some u → (∀ ps, u ≠ .tbl ps) → H' a = some u
  frz : ∀ a o u, H a = some (.frz o u) → H' a = some (.frz o u)
  ext : ∀ a P, H a = some (.ext P) → H' a = some (.ext P)
section
variable {F F' F2 : Addr → Prop} {H H' H2 : Hp}
mutual
theorem RpD.mono (l : Le F H F' H') : ∀ {v : V} {d : D}, RpD F H v d → RpD F' H' v d
  | _, _, .non => .non
  | _, _, .bl b => .bl b
  | _, _, .int i => .int i
  | _, _, .str x => .str x
  | _, _, .tup h e r => .tup (l.frz _ _ _ h) e (RpDs.mono l r)
  | _, _, .lst f h r => .lst (l.sub _ f) (l.rds _ _ f h nt_lst) (RpDs.mono l r)
theorem RpDs.mono (l : Le F H F' H') : ∀ {vs : List V} {ds : List D}, RpDs F H vs ds → RpDs F' H' vs ds
  | _, _, .nil => .nil
  | _, _, .cons r t => .cons (RpD.mono l r) (RpDs.mono l t)
end
theorem RpDs.append : ∀ {vs ws : List V} {ds es : List D}, RpDs F H vs ds → RpDs F H ws es → RpDs F H (vs ++ ws) (ds ++ es)
  | _, _, _, _, .nil, s => s
  | _, _, _, _, .cons r t, s => .cons r (RpDs.append t s)
theorem RpDs.get : ∀ {vs : List V} {ds : List D} {i : Nat} {d : D}, RpDs F H vs ds → ds[i]? = some d → ∃ v, vs[i]? = some v ∧ RpD F H v d
  | _, _, _, _, .nil, e => by simp at e
  | _, _, 0, _, .cons r _, e => by simp at e; subst e; exact ⟨_, rfl, r⟩
  | _, _, i + 1, d, .cons _ t, e => by
    obtain ⟨v, h1, h2⟩ := RpDs.get (i := i) (d := d) t (by simpa using e)
    exact ⟨v, by simpa using h1, h2⟩
theorem RpDs.get' : ∀ {vs : List V} {ds : List D} {i : Nat} {v : V}, RpDs F H vs ds → vs[i]? = some v → ∃ d, ds[i]? = some d ∧ RpD F H v d
  | _, _, _, _, .nil, e => by simp at e
  | _, _, 0, _, .cons r _, e => by simp at e; subst e; exact ⟨_, rfl, r⟩
  | _, _, i + 1, v, .cons _ t, e => by
    obtain ⟨d, h1, h2⟩ := RpDs.get' (i := i) (v := v) t (by simpa using e)
    exact ⟨d, by simpa using h1, h2⟩
theorem RpDs.drop : ∀ (n : Nat) {vs : List V} {ds : List D}, RpDs F H vs ds → RpDs F H (vs.drop n) (ds.drop n)
  | 0, _, _, r => r
  | _ + 1, _, _, .nil => .nil
  | n + 1, _, _, .cons _ t => RpDs.drop n t
theorem RpDs.take : ∀ (n : Nat) {vs : List V} {ds : List D}, RpDs F H vs ds → RpDs F H (vs.take n) (ds.take n)
  | 0, _, _, _ => .nil
  | _ + 1, _, _, .nil => .nil
  | n + 1, _, _, .cons r t => .cons r (RpDs.take n t)
theorem RpDs.set {v : V} {d : D} (r : RpD F H v d) : ∀ (n : Nat) {vs : List V} {ds : List D}, RpDs F H vs ds → RpDs F H (vs.set n v) (ds.set n d)
  | _, _, _, .nil => .nil
  | 0, _, _, .cons _ t => .cons r t
  | n + 1, _, _, .cons q t => .cons q (RpDs.set r n t)
mutual
theorem RpD.dp {K : PySem.W.Frag} : ∀ {v : V} {d : D}, RpD F H v d → Dp K H v d
  | _, _, .non => .non
  | _, _, .bl b => .bl b
  | _, _, .int i => .int i
  | _, _, .str x => .str x
  | _, _, .tup h _ r => .tup (.inl (.inr ⟨_, h⟩)) (RpDs.dps r)
  | _, _, .lst _ h r => .lst (.inl (.inl h)) (RpDs.dps r)
theorem RpDs.dps {K : PySem.W.Frag} : ∀ {vs : List V} {ds : List D}, RpDs F H vs ds → DpAll K H vs ds
  | _, _, .nil => .nil
  | _, _, .cons r t => .cons (RpD.dp r) (RpDs.dps t)
end
end

/-! ### names -/
inductive NmR (π : List Addr) : List V → List Nat → Prop
  | nil : NmR π [] []
  | cons {a : Addr} {n : Nat} {vs : List V} {ns : List Nat} : π[n]? = some a → NmR π vs ns → NmR π (.ref a :: vs) (n :: ns)
theorem NmR.length {π : List Addr} : ∀ {vs : List V} {ns : List Nat}, NmR π vs ns → vs.length = ns.length
  | _, _, .nil => rfl
  | _, _, .cons _ t => by rw [List.length_cons, List.length_cons, NmR.length t]
theorem NmR.mono {π π' : List Addr} (h : ∀ (n : Nat) a, π[n]? = some a → π'[n]? = some a) : ∀ {vs : List V} {ns : List Nat}, NmR π vs ns → NmR π' vs ns
  | _, _, .nil => .nil
  | _, _, .cons e t => .cons (h _ _ e) (NmR.mono h t)
theorem NmR.append {π : List Addr} : ∀ {vs ws : List V} {ns ms : List Nat}, NmR π vs ns → NmR π ws ms → NmR π (vs ++ ws) (ns ++ ms)
  | _, _, _, _, .nil, s => s
  | _, _, _, _, .cons e t, s => .cons e (NmR.append t s)
theorem NmR.get {π : List Addr} : ∀ {vs : List V} {ns : List Nat} {i n : Nat}, NmR π vs ns → ns[i]? = some n → ∃ a, vs[i]? = some (.ref a) ∧ π[n]? = some a
  | _, _, _, _, .nil, e => by simp at e
  | _, _, 0, _, .cons r _, e => by simp at e; subst e; exact ⟨_, rfl, r⟩
  | _, _, i + 1, n, .cons _ t, e => by
    obtain ⟨a, h1, h2⟩ := NmR.get (i := i) (n := n) t (by simpa using e)
    exact ⟨a, by simpa using h1, h2⟩
inductive RpU (F : Addr → Prop) (π : List Addr) (H : Hp) : V → U → Prop
  | p {v : V} {d : D} : RpD F H v d → RpU F π H v (.p d)
  | ref {n : Nat} {a : Addr} : π[n]? = some a → RpU F π H (.ref a) (.ref n)
  | rl {a : Addr} {vs : List V} {ns : List Nat} : F a → H a = some (.lst vs) → NmR π vs ns → RpU F π H (.ref a) (.rl ns)
  | scr {a : Addr} {vs : List V} {ds : List D} : ((F a ∧ H a = some (.lst vs)) ∨ ∃ o, H a = some (.frz o (.lst vs))) → RpDs F H vs ds → RpU F π H (.ref a) (.scr ds)
inductive RpUs (F : Addr → Prop) (π : List Addr) (H : Hp) : List V → List U → Prop
  | nil : RpUs F π H [] []
  | cons {v : V} {vs : List V} {u : U} {us : List U} : RpU F π H v u → RpUs F π H vs us → RpUs F π H (v :: vs) (u :: us)
theorem RpUs.length {F : Addr → Prop} {π : List Addr} {H : Hp} : ∀ {vs : List V} {us : List U}, RpUs F π H vs us → vs.length = us.length
  | _, _, .nil => rfl
  | _, _, .cons _ t => by rw [List.length_cons, List.length_cons, RpUs.length t]

/-! ### what may change -/
def CellR (F : Addr → Prop) (π : List Addr) (H : Hp) (a : Addr) : Cell → Prop
  | .pl ds => ∃ vs, H a = some (.lst vs) ∧ RpDs F H vs ds
  | .rl ns => ∃ vs, H a = some (.lst vs) ∧ NmR π vs ns
  | .dct _ => False
  | .ins _ _ => False
  | .tab P q => a = P ∧ LamX.TabS H P q
structure MemR (F : Addr → Prop) (π : List Addr) (H : Hp) (M : Mem) : Prop where
  len : π.length = M.length
  nd : π.Nodup
  nf : ∀ a ∈ π, ¬ F a
  ft : ∀ a, F a → ∃ o, H a = some o ∧ ∀ ps, o ≠ .tbl ps
  tb : ∀ (n : Nat) P q, M[n]? = some (.tab P q) → n = 0
  cell : ∀ (n : Nat) c a, M[n]? = some c → π[n]? = some a → CellR F π H a c
structure EnvR (F : Addr → Prop) (π : List Addr) (H : Hp) (ρ : Env) (σ : St) : Prop where
  len : ρ.length = σ.length
  get : ∀ (i : Nat) u, ρ[i]? = some (some u) → ∃ v, σ[i]? = some (some v) ∧ RpU F π H v u

theorem MemR.at {F : Addr → Prop} {π : List Addr} {H : Hp} {M : Mem} (m : MemR F π H M) {n : Nat} {c : Cell} (h : M[n]? = some c) : ∃ a, π[n]? = some a ∧ CellR F π H a c := by
  have hn : n < π.length := by rw [m.len]; exact (List.getElem?_eq_some_iff.mp h).1
  exact ⟨π[n], List.getElem?_eq_getElem hn, m.cell n c _ h (List.getElem?_eq_getElem hn)⟩
theorem MemR.there {F : Addr → Prop} {π : List Addr} {H : Hp} {M : Mem} (m : MemR F π H M) {a : Addr} (h : a ∈ π) : ∃ o, H a = some o ∧ (∀ ob u, o ≠ .frz ob u) ∧ (∀ P, o ≠ .ext P) := by
  obtain ⟨n, hn, e⟩ := List.mem_iff_getElem.mp h
  have hM : n < M.length := by rw [← m.len]; exact hn
  have c := m.cell n M[n] a (List.getElem?_eq_getElem hM) (by rw [List.getElem?_eq_getElem hn, e])
  revert c
  cases M[n] with
  | pl ds => exact fun ⟨vs, h, _⟩ => ⟨_, h, fun _ _ z => (by cases z), fun _ z => (by cases z)⟩
  | rl ds => exact fun ⟨vs, h, _⟩ => ⟨_, h, fun _ _ z => (by cases z), fun _ z => (by cases z)⟩
  | dct _ => exact fun h => h.elim
  | ins _ _ => exact fun h => h.elim
  | tab P q => exact fun ⟨e, ps, h, _⟩ => ⟨_, by rw [e]; exact h, fun _ _ z => (by cases z), fun _ z => (by cases z)⟩

/-! ### from a state to a later one -/
structure Post (F : Addr → Prop) (π : List Addr) (H : Hp) (F' : Addr → Prop) (π' : List Addr) (H' : Hp) : Prop where
  le : Le F H F' H'
  pre : ∀ (n : Nat) a, π[n]? = some a → π'[n]? = some a
  keep : ∀ a o, H a = some o → a ∉ π → (∀ ps, o ≠ .tbl ps) → H' a = some o
  there : ∀ a o, H a = some o → (∀ ps, o ≠ .tbl ps) → ∃ o', H' a = some o' ∧ ∀ ps, o' ≠ .tbl ps
  newF : ∀ a, F' a → F a ∨ NT H a
  newP : ∀ a, a ∈ π' → a ∈ π ∨ NT H a
section
variable {F F1 F2 F' : Addr → Prop} {π π1 π2 π' : List Addr} {H H1 H2 H' : Hp} {M : Mem}
theorem Post.refl : Post F π H F π H := ⟨⟨fun _ h => h, fun _ _ _ h _ => h, fun _ _ _ h => h, fun _ _ h => h⟩, fun _ _ h => h, fun _ _ h _ _ => h, fun _ o h t => ⟨o, h, t⟩, fun _ h => .inl h, fun _ h => .inl h⟩
theorem Le.trans {F F1 F2 : Addr → Prop} {H H1 H2 : Hp} (a : Le F H F1 H1) (b : Le F1 H1 F2 H2) : Le F H F2 H2 :=
  ⟨fun x h => b.sub x (a.sub x h), fun x u f h t => b.rds x u (a.sub x f) (a.rds x u f h t) t, fun x o u h => b.frz x o u (a.frz x o u h), fun x P h => b.ext x P (a.ext x P h)⟩
theorem Post.was (p : Post F π H F1 π1 H1) {a : Addr} (h : NT H1 a) : NT H a := fun o q => by
  cases o with
  | tbl ps => exact ⟨ps, rfl⟩
  | _ =>
    obtain ⟨o', e, t⟩ := p.there a _ q (fun _ z => by cases z)
    exact h.no e t
theorem Post.trans (p : Post F π H F1 π1 H1) (q : Post F1 π1 H1 F2 π2 H2) : Post F π H F2 π2 H2 where
  le := p.le.trans q.le
  pre := fun n a h => q.pre n a (p.pre n a h)
  keep := fun a o h hn ht => q.keep a o (p.keep a o h hn ht) (fun z => (p.newP a z).elim hn fun e => e.no h ht) ht
  there := fun a o h t => let ⟨o', e, t'⟩ := p.there a o h t; q.there a o' e t'
  newF := fun a h => (q.newF a h).elim (p.newF a) fun e => .inr (p.was e)
  newP := fun a h => (q.newP a h).elim (p.newP a) fun e => .inr (p.was e)
theorem Le.scr {a : Addr} {vs : List V} {F F1 : Addr → Prop} {H H1 : Hp} (l : Le F H F1 H1) (h : (F a ∧ H a = some (.lst vs)) ∨ ∃ o, H a = some (.frz o (.lst vs))) : (F1 a ∧ H1 a = some (.lst vs)) ∨ ∃ o, H1 a = some (.frz o (.lst vs)) :=
  h.imp (fun ⟨f, e⟩ => ⟨l.sub _ f, l.rds _ _ f e nt_lst⟩) fun ⟨o, e⟩ => ⟨o, l.frz _ _ _ e⟩
theorem scr_sq {K : PySem.W.Frag} {a : Addr} {vs : List V} {F : Addr → Prop} {H : Hp} (h : (F a ∧ H a = some (.lst vs)) ∨ ∃ o, H a = some (.frz o (.lst vs))) : SqL K H a vs := .inl (h.imp (fun z => z.2) fun z => z)
theorem RpU.mono (p : Post F π H F' π' H') {v : V} {u : U} (r : RpU F π H v u) : RpU F' π' H' v u := by
  cases r with
  | p r => exact .p (r.mono p.le)
  | ref h => exact .ref (p.pre _ _ h)
  | rl f h r => exact .rl (p.le.sub _ f) (p.le.rds _ _ f h nt_lst) (r.mono p.pre)
  | scr h r => exact .scr (p.le.scr h) (r.mono p.le)
theorem RpUs.mono (p : Post F π H F' π' H') : ∀ {vs : List V} {us : List U}, RpUs F π H vs us → RpUs F' π' H' vs us
  | _, _, .nil => .nil
  | _, _, .cons r t => .cons (r.mono p) (RpUs.mono p t)
theorem EnvR.mono (p : Post F π H F' π' H') {ρ : Env} {σ : St} (r : EnvR F π H ρ σ) : EnvR F' π' H' ρ σ := ⟨r.len, fun i u h =>
  let ⟨v, e, q⟩ := r.get i u h
  ⟨v, e, q.mono p⟩⟩
/-- a new object that is of no name and not frozen -/
theorem Post.laid {a : Addr} {o : HO} (h : H a = none) : Post F π H F π (upd H a o) :=
  have hu : ∀ b u, H b = some u → upd H a o b = some u := fun b u e => by rw [upd_ne (ne_of_none e h)]; exact e
  ⟨⟨fun _ z => z, fun b u _ e _ => hu b u e, fun b _ _ e => hu b _ e, fun b _ e => hu b _ e⟩, fun _ _ z => z, fun b u e _ _ => hu b u e, fun b u e t => ⟨u, hu b u e, t⟩, fun _ z => .inl z, fun _ z => .inl z⟩
theorem NmR.same {vs : List V} {ns : List Nat} (r : NmR π vs ns) : NmR π vs ns := r
theorem CellR.mono (l : Le F H F' H') (hp : ∀ (n : Nat) a, π[n]? = some a → π'[n]? = some a) {a : Addr} {c : Cell} (he : H' a = H a) (r : CellR F π H a c) : CellR F' π' H' a c := by
  cases c with
  | pl ds => obtain ⟨vs, h, q⟩ := r; exact ⟨vs, he.trans h, q.mono l⟩
  | rl ns => obtain ⟨vs, h, q⟩ := r; exact ⟨vs, he.trans h, q.mono hp⟩
  | dct _ => exact r
  | ins _ _ => exact r
  | tab P q =>
    obtain ⟨e, ps, h1, h2, h3⟩ := r
    subst e
    exact ⟨rfl, ps, he.trans h1, h2, fun pos cv hc => let ⟨c, e1, e2⟩ := h3 pos cv hc; ⟨c, e1, l.ext _ _ e2⟩⟩
theorem MemR.laid (m : MemR F π H M) {a : Addr} {o : HO} (h : H a = none) : MemR F π (upd H a o) M :=
  ⟨m.len, m.nd, m.nf, fun b f => let ⟨u, e, t⟩ := m.ft b f; ⟨u, by rw [upd_ne (ne_of_none e h)]; exact e, t⟩, m.tb, fun n c b hc hb => (m.cell n c b hc hb).mono (Post.laid (π := π) h).le (fun _ _ z => z) (by
    obtain ⟨vs, e, _⟩ := m.there (List.mem_of_getElem? hb)
    rw [upd_ne (ne_of_none e h)])⟩
/-- .. is frozen -/
theorem Post.frozen {a : Addr} (h : NT H a) (q : Post F π H F1 π1 H1) : Post F π H (fun b => F1 b ∨ b = a) π1 H1 :=
  ⟨⟨fun b z => .inl (q.le.sub b z), q.le.rds, q.le.frz, q.le.ext⟩, q.pre, q.keep, q.there, fun b z => z.elim (q.newF b) fun e => .inr (by rw [e]; exact h), q.newP⟩
theorem Le.frozen {a : Addr} : Le F H (fun b => F b ∨ b = a) H := ⟨fun _ z => .inl z, fun _ _ _ z _ => z, fun _ _ _ z => z, fun _ _ z => z⟩
theorem MemR.frozen (m : MemR F π H M) {a : Addr} {o : HO} (h : a ∉ π) (ha : H a = some o) (ht : ∀ ps, o ≠ .tbl ps) : MemR (fun b => F b ∨ b = a) π H M :=
  ⟨m.len, m.nd, fun b hb z => z.elim (m.nf b hb) fun e => h (e ▸ hb), fun b z => z.elim (m.ft b) fun e => ⟨o, by rw [e]; exact ha, ht⟩, m.tb, fun n c b hc hb => (m.cell n c b hc hb).mono Le.frozen (fun _ _ z => z) rfl⟩
/-- .. gets a name -/
theorem pre_snoc {a : Addr} : ∀ (n : Nat) b, π[n]? = some b → (π ++ [a])[n]? = some b := fun n b h => by
  rw [List.getElem?_append_left (List.getElem?_eq_some_iff.mp h).1]; exact h
theorem Post.named {a : Addr} (h : NT H a) (q : Post F π H F1 π1 H1) : Post F π H F1 (π1 ++ [a]) H1 :=
  ⟨q.le, fun n b e => pre_snoc n b (q.pre n b e), q.keep, q.there, q.newF, fun b z => by
    rcases List.mem_append.mp z with z | z
    · exact q.newP b z
    · rw [List.mem_singleton.mp z]; exact .inr h⟩
theorem MemR.named (m : MemR F π H M) {a : Addr} {c : Cell} (h : a ∉ π) (hf : ¬ F a) (hnt : ∀ P q, c ≠ .tab P q) (hc : CellR F (π ++ [a]) H a c) : MemR F (π ++ [a]) H (M ++ [c]) := by
  refine ⟨by rw [List.length_append, List.length_append, m.len]; rfl, ?_, ?_, m.ft, fun n P q e => ?_, fun n c' b e1 e2 => ?_⟩
  · rw [List.nodup_append]
    exact ⟨m.nd, by simp, fun x hx y hy => by rw [List.mem_singleton.mp hy]; exact fun e => h (e ▸ hx)⟩
  · intro b hb
    rcases List.mem_append.mp hb with z | z
    · exact m.nf b z
    · rw [List.mem_singleton.mp z]; exact hf
  · by_cases hn : n < M.length
    · rw [List.getElem?_append_left hn] at e
      exact m.tb n P q e
    · rw [List.getElem?_append_right (Nat.le_of_not_lt hn)] at e
      cases hk : n - M.length with
      | zero => rw [hk] at e; cases e; exact absurd rfl (hnt P q)
      | succ _ => rw [hk] at e; cases e
  · by_cases hn : n < M.length
    · rw [List.getElem?_append_left hn] at e1
      rw [List.getElem?_append_left (by rw [m.len]; exact hn)] at e2
      exact (m.cell n c' b e1 e2).mono ⟨fun _ z => z, fun _ _ _ z _ => z, fun _ _ _ z => z, fun _ _ z => z⟩ pre_snoc rfl
    · have hl : n < (M ++ [c]).length := (List.getElem?_eq_some_iff.mp e1).1
      rw [List.length_append] at hl
      have en : n = M.length := by simp at hl; omega
      subst en
      rw [List.getElem?_append_right (Nat.le_refl _), Nat.sub_self] at e1
      rw [← m.len, List.getElem?_append_right (Nat.le_refl _), Nat.sub_self] at e2
      cases e1; cases e2
      exact hc
/-- a named list is written -/
theorem Post.wrote (m : MemR F π H M) {n : Nat} {a : Addr} {vs : List V} (h : π[n]? = some a) : Post F π H F π (upd H a (.lst vs)) := by
  have ha : a ∈ π := List.mem_of_getElem? h
  obtain ⟨ws, e, nfz, nex⟩ := m.there ha
  refine ⟨⟨fun _ z => z, fun b u f q _ => ?_, fun b o us q => ?_, fun b P q => ?_⟩, fun _ _ z => z, fun b o q hb _ => ?_, fun b o q t => ?_, fun _ z => .inl z, fun _ z => .inl z⟩
  · rw [upd_ne (fun z => m.nf a ha (by rw [← z]; exact f))]; exact q
  · rw [upd_ne (fun z => by rw [z, e] at q; exact nfz _ _ (Option.some.inj q))]; exact q
  · rw [upd_ne (fun z => by rw [z, e] at q; exact nex _ (Option.some.inj q))]; exact q
  · rw [upd_ne (fun z => hb (by rw [z]; exact ha))]; exact q
  · by_cases hb : b = a
    · rw [hb]; exact ⟨_, upd_same, nt_lst⟩
    · exact ⟨o, by rw [upd_ne hb]; exact q, t⟩
theorem nd_ix {n m : Nat} {a : Addr} (nd : π.Nodup) (h : π[n]? = some a) (h' : π[m]? = some a) : n = m := by
  obtain ⟨h1, e1⟩ := List.getElem?_eq_some_iff.mp h
  obtain ⟨h2, e2⟩ := List.getElem?_eq_some_iff.mp h'
  exact (List.getElem_inj nd).mp (e1.trans e2.symm)
theorem MemR.wrote (m : MemR F π H M) {n : Nat} {a : Addr} {vs : List V} {c : Cell} (h : π[n]? = some a) (hc : CellR F π (upd H a (.lst vs)) a c) : MemR F π (upd H a (.lst vs)) (M.set n c) := by
  refine ⟨by rw [List.length_set]; exact m.len, m.nd, m.nf, fun b f => let ⟨u, e, t⟩ := m.ft b f; ⟨u, by rw [upd_ne (fun z => m.nf a (List.mem_of_getElem? h) (by rw [← z]; exact f))]; exact e, t⟩, fun k P q e => ?_, fun k c' b e1 e2 => ?_⟩
  · by_cases hk : n = k
    · subst hk
      have hn : n < M.length := by rw [← m.len]; exact (List.getElem?_eq_some_iff.mp h).1
      rw [List.getElem?_set_self hn] at e
      cases e
      obtain ⟨e1, ps, e2, _⟩ := hc
      rw [← e1, upd_same] at e2
      cases e2
    · rw [List.getElem?_set_ne hk] at e
      exact m.tb k P q e
  by_cases hk : n = k
  · subst hk
    rw [h] at e2; cases e2
    have hn : n < M.length := by rw [← m.len]; exact (List.getElem?_eq_some_iff.mp h).1
    rw [List.getElem?_set_self hn] at e1
    cases e1
    exact hc
  · rw [List.getElem?_set_ne hk] at e1
    refine (m.cell k c' b e1 e2).mono (Post.wrote m h).le (fun _ _ z => z) ?_
    rw [upd_ne (fun z => hk (nd_ix m.nd h (by rw [← z]; exact e2)))]
end

/-! ### outcomes -/
section
variable (ca : Str → Addr) (E : XK)
def Out {α : Type} (F : Addr → Prop) (π : List Addr) (H : Hp) (r : R α) (Z : α → Mem → Prop) : Prop := match r with
  | .ok a M => Z a M
  | .exc c M => ∀ F' π' H', Post F π H F' π' H' → MemR F' π' H' M → E (.ref (ca c)) none H'
  | .bad => False
def VQ (F : Addr → Prop) (π : List Addr) (H : Hp) (Q : VK) : U → Mem → Prop := fun u M' => ∀ v F' π' H', Post F π H F' π' H' → MemR F' π' H' M' → RpU F' π' H' v u → Q v H'
/-- a new list, not frozen, of no name -/
structure Fresh (F : Addr → Prop) (π : List Addr) (H : Hp) (a : Addr) : Prop where
  old : NT H a
  nf : ¬ F a
  nn : a ∉ π
def LstR (F : Addr → Prop) (π : List Addr) (H : Hp) (vs : List V) : U → Prop
  | .p (.list ds) => RpDs F H vs ds
  | .rl ns => NmR π vs ns
  | _ => False
def isLst : U → Bool
  | .p (.list _) => true
  | .rl _ => true
  | _ => false
/-- lists come new -/
def SQ (F : Addr → Prop) (π : List Addr) (H : Hp) (Q : VK) : U → Mem → Prop := fun u M' =>
  (isLst u = false → ∀ v F' π' H', Post F π H F' π' H' → MemR F' π' H' M' → RpU F' π' H' v u → Q v H') ∧
  (isLst u = true → ∀ a vs F' π' H', Post F π H F' π' H' → MemR F' π' H' M' → NT H a → ¬ F' a → a ∉ π' → H' a = some (.lst vs) → LstR F' π' H' vs u → Q (.ref a) H')
end
section
variable {ca : Str → Addr} {E : XK} {α β : Type} {F F1 : Addr → Prop} {π π1 : List Addr} {H H1 : Hp}
theorem Out.bind {r : R α} {f : α → Mem → R β} {Z : β → Mem → Prop} (h : Out ca E F π H (r.bind f) Z) : Out ca E F π H r (fun a M => Out ca E F π H (f a M) Z) := by
  cases r with
  | ok a M => exact h
  | exc c M => exact h
  | bad => exact h
theorem Out.imp {r : R α} {Z Z' : α → Mem → Prop} (h : Out ca E F π H r Z) (hz : ∀ a M, Z a M → Z' a M) : Out ca E F π H r Z' := by
  cases r with
  | ok a M => exact hz a M h
  | exc c M => exact h
  | bad => exact h
theorem Out.move {r : R α} {Z : α → Mem → Prop} (p : Post F π H F1 π1 H1) (h : Out ca E F π H r Z) : Out ca E F1 π1 H1 r Z := by
  cases r with
  | ok a M => exact h
  | exc c M => exact fun F' π' H' q m => h F' π' H' (p.trans q) m
  | bad => exact h
theorem Out.calm {E' : XK} {r : R α} {Z : α → Mem → Prop} (h : Out ca E F π H r.calm Z) : Out ca E' F1 π1 H1 r Z := by
  cases r with
  | ok a M => exact h
  | exc c M => exact False.elim h
  | bad => exact h
theorem Out.of {o : Option α} {M : Mem} {Z : α → Mem → Prop} (h : Out ca E F π H (R.of o M) Z) : ∃ a, o = some a ∧ Z a M := by
  cases o with
  | none => exact False.elim h
  | some a => exact ⟨a, rfl, h⟩
theorem VQ.move {Q : VK} {u : U} {M : Mem} (p : Post F π H F1 π1 H1) (h : VQ F π H Q u M) : VQ F1 π1 H1 Q u M := fun v F' π' H' q m r => h v F' π' H' (p.trans q) m r
theorem SQ.move {Q : VK} {u : U} {M : Mem} (p : Post F π H F1 π1 H1) (h : SQ F π H Q u M) : SQ F1 π1 H1 Q u M :=
  ⟨fun e v F' π' H' q m r => h.1 e v F' π' H' (p.trans q) m r, fun e a vs F' π' H' q m ho hf hp hl r => h.2 e a vs F' π' H' (p.trans q) m (p.was ho) hf hp hl r⟩
theorem LstR.rp {a : Addr} {vs : List V} {u : U} (f : F a) (h : H a = some (.lst vs)) (r : LstR F π H vs u) : RpU F π H (.ref a) u := by
  cases u with
  | p d =>
    cases d with
    | list ds => exact .p (.lst f h r)
    | _ => exact r.elim
  | ref n => exact r.elim
  | rl ns => exact .rl f h r
  | scr _ => exact r.elim
theorem LstR.mono (l : Le F H F1 H1) (hp : ∀ (n : Nat) a, π[n]? = some a → π1[n]? = some a) {vs : List V} {u : U} (r : LstR F π H vs u) : LstR F1 π1 H1 vs u := by
  cases u with
  | p d =>
    cases d with
    | list ds => exact RpDs.mono l r
    | _ => exact r.elim
  | ref n => exact r.elim
  | rl ns => exact NmR.mono hp r
  | scr _ => exact r.elim
/-- a new list may be frozen -/
theorem VQ.strong {Q : VK} {u : U} {M : Mem} (h : VQ F π H Q u M) : SQ F π H Q u M :=
  ⟨fun _ => h, fun _ a vs F' π' H' q m ho hf hp hl r => h (.ref a) (fun b => F' b ∨ b = a) π' H' (q.frozen ho) (m.frozen hp hl nt_lst) (LstR.rp (.inr rfl) hl (r.mono Le.frozen fun _ _ z => z))⟩
end
end VW
end
section
set_option maxHeartbeats 1000000
/-! Operators over what stands for data. -/
namespace VW
open PySem PySem.Spec L2

section
variable {F : Addr → Prop} {π : List Addr} {H : Hp} {M : Mem}
theorem MemR.fresh (m : MemR F π H M) {a : Addr} (h : H a = none) : ¬ F a ∧ a ∉ π :=
  ⟨fun f => (by obtain ⟨o, e, _⟩ := m.ft a f; rw [h] at e; cases e), fun z => (by obtain ⟨o, e, _⟩ := m.there z; rw [h] at e; cases e)⟩
/-- a value that stands for data now: a list by its items -/
theorem val_rp (m : MemR F π H M) {v : V} {u : U} {d : D} (r : RpU F π H v u) (h : val M u = some d) : Dp [] H v d ∧ (RpD F H v d ∨ ∃ a vs ds, v = .ref a ∧ d = .list ds ∧ H a = some (.lst vs) ∧ RpDs F H vs ds) := by
  cases u with
  | p e =>
    cases h
    cases r with
    | p r => exact ⟨r.dp, .inl r⟩
  | ref n =>
    cases r with
    | ref hn =>
      simp only [val] at h
      split at h
      · rename_i ds hm
        cases h
        obtain ⟨vs, e, q⟩ := m.cell n _ _ hm hn
        exact ⟨.lst (.inl (.inl e)) q.dps, .inr ⟨_, vs, ds, rfl, rfl, e, q⟩⟩
      · cases h
  | rl ns => cases h
  | scr _ => cases h
theorem val_dp {K : PySem.W.Frag} (m : MemR F π H M) {v : V} {u : U} {d : D} (r : RpU F π H v u) (h : val M u = some d) : Dp K H v d := by
  obtain ⟨_, q | ⟨a, vs, ds, rfl, rfl, e, q⟩⟩ := val_rp m r h
  · exact q.dp
  · exact .lst (.inl (.inl e)) q.dps
theorem val_int (m : MemR F π H M) {v : V} {u : U} {i : Int} (r : RpU F π H v u) (h : val M u = some (.int i)) : v = .int i := by
  cases val_dp (K := []) m r h
  rfl
theorem val_str (m : MemR F π H M) {v : V} {u : U} {i : Str} (r : RpU F π H v u) (h : val M u = some (.str i)) : v = .str i := by
  cases val_dp (K := []) m r h
  rfl
theorem val_bool (m : MemR F π H M) {v : V} {u : U} {i : Bool} (r : RpU F π H v u) (h : val M u = some (.bool i)) : v = .bl i := by
  cases val_dp (K := []) m r h
  rfl
theorem val_none (m : MemR F π H M) {v : V} {u : U} (r : RpU F π H v u) (h : val M u = some .none) : v = .non := by
  cases val_dp (K := []) m r h
  rfl
theorem val_tup (m : MemR F π H M) {v : V} {u : U} {ds : List D} (r : RpU F π H v u) (h : val M u = some (.tuple ds)) : ∃ a o vs, v = .ref a ∧ H a = some (.frz o (.tup vs)) ∧ o.dict = none ∧ RpDs F H vs ds := by
  obtain ⟨_, q | ⟨a, vs, es, rfl, e, _⟩⟩ := val_rp m r h
  · cases q with
    | tup h e q => exact ⟨_, _, _, rfl, h, e, q⟩
  · cases e
theorem val_lst (m : MemR F π H M) {v : V} {u : U} {ds : List D} (r : RpU F π H v u) (h : val M u = some (.list ds)) : ∃ a vs, v = .ref a ∧ H a = some (.lst vs) ∧ RpDs F H vs ds := by
  obtain ⟨_, q | ⟨a, vs, es, rfl, e, h1, h2⟩⟩ := val_rp m r h
  · cases q with
    | lst f h q => exact ⟨_, _, rfl, h, q⟩
  · cases e
    exact ⟨a, vs, rfl, h1, h2⟩
/-- .. where it is read alone -/
theorem rdv_dp {K : PySem.W.Frag} (m : MemR F π H M) {v : V} {u : U} {d : D} (r : RpU F π H v u) (h : rdv M u = some d) : Dp K H v d := by
  cases u with
  | scr ds =>
    cases h
    cases r with
    | scr e q => exact .lst (scr_sq e) q.dps
  | p e => exact val_dp m r h
  | ref n => exact val_dp m r h
  | rl ns => cases h
theorem rdv_seq {K : PySem.W.Frag} (m : MemR F π H M) {v : V} {u : U} {d : D} {ds : List D} (r : RpU F π H v u) (h : rdv M u = some d) (hd : seqD d = some ds) : ∃ a vs, v = .ref a ∧ (SqL K H a vs ∨ SqT K H a vs) ∧ RpDs F H vs ds := by
  cases u with
  | scr es =>
    cases h
    cases hd
    cases r with
    | scr e q => exact ⟨_, _, rfl, .inl (scr_sq e), q⟩
  | rl ns => cases h
  | _ =>
    cases d with
    | tuple es =>
      cases hd
      obtain ⟨a, o, vs, rfl, e, _, q⟩ := val_tup m r h
      exact ⟨a, vs, rfl, .inr (.inl (.inr ⟨o, e⟩)), q⟩
    | list es =>
      cases hd
      obtain ⟨a, vs, rfl, e, q⟩ := val_lst m r h
      exact ⟨a, vs, rfl, .inl (.inl (.inl e)), q⟩
    | _ => cases hd
end

/-! ### ends -/
section
variable {F : Addr → Prop} {π : List Addr} {H : Hp} {M : Mem} {Q : VK}
theorem SQ.same {v : V} {u : U} (m : MemR F π H M) (h : SQ F π H Q u M) (hu : isLst u = false) (r : RpU F π H v u) : Q v H := h.1 hu v F π H Post.refl m r
theorem SQ.lst {vs : List V} {u : U} (m : MemR F π H M) (h : SQ F π H Q u M) (hu : isLst u = true) (r : LstR F π H vs u) {a : Addr} (ha : H a = none) : Q (.ref a) (upd H a (.lst vs)) :=
  h.2 hu a vs F π _ (Post.laid ha) (m.laid ha) (.of ha) (m.fresh ha).1 (m.fresh ha).2 upd_same (r.mono (Post.laid (π := π) ha).le fun _ _ z => z)
theorem SQ.tup {vs : List V} {ds : List D} (m : MemR F π H M) (h : SQ F π H Q (.p (.tuple ds)) M) (r : RpDs F H vs ds) {a : Addr} {o : Obj} (ha : H a = none) (ho : o.dict = none) : Q (.ref a) (upd H a (.frz o (.tup vs))) :=
  h.1 rfl (.ref a) F π _ (Post.laid ha) (m.laid ha) (.p (.tup upd_same ho (r.mono (Post.laid (π := π) ha).le)))
end

/-! ### tuples: made new, and known to have no dict of their own -/
section
variable {X : Cx}
def NewT (H : Hp) (Q : VK) (vs : List V) : Prop := ∀ p o, H p = none → o.dict = none → Q (.ref p) (upd H p (.frz o (.tup vs)))
theorem lay_tup {pins : List (Addr × Obj)} {σ : St} {H : Hp} {s : Shared} {Q : VK} {vs : List V} {us : List Value} (I : Inv X pins σ H s) (r : Vals vs us) (hz : vs.length ≤ sizeLine) (q : NewT H Q vs) :
    EP X pins σ Q (.ref s.heap.objs.size) { s with heap := s.heap.push { cls := .type "tuple", data := .seq us.toArray } } := by
  have hn := I.hok.fresh (Nat.le_refl _)
  refine ⟨.ref _, _, I.laid (t' := s.toks) (o := .frz { cls := .type "tuple", data := .seq us.toArray } (.tup vs)) (fun _ _ e => Heap.get?_push_of_some _ e) (Nat.le_refl _) ?_, rfl, q _ _ hn rfl⟩
  exact ⟨Heap.get?_push_size _ rfl, hz, us, r, PyProof.Rows.IsTup.new _ _⟩
theorem pe_tupF {es : List Expr} {t : TA} {j : Nat} {pos : Pos} (h : PA X es t) : PE X (.Tuple es j pos) (fun σ H Q => t σ H fun xs H1 => xs.length ≤ sizeLine ∧ NewT H1 Q xs) :=
  ⟨fun pins s σ H Q I hq => wpAny_Tuple_spliced (thn (h.run pos pins s σ H _ I hq) fun us s1 ⟨xs, H1, I1, r, z, q⟩ => ⟨by rw [← r.length]; exact z, lay_tup I1 r z q⟩)⟩
theorem op_catF : OpR X (binaryOp .Add) (fun x y H Q => ∃ a b xs ys, x = .ref a ∧ y = .ref b ∧ SqT X.K H a xs ∧ SqT X.K H b ys ∧ xs.length + ys.length ≤ sizeLine ∧
    (xs = [] → Q (.ref b) H) ∧ (xs ≠ [] → ys = [] → Q (.ref a) H) ∧ (xs ≠ [] → ys ≠ [] → NewT H Q (xs ++ ys))) := by
  intro pins s σ H x y v u Q I rx ry ⟨a, b, xs, ys, ex, ey, ha, hb, hz, q0, q1, q2⟩
  subst ex ey
  by_cases hx : xs = []
  · subst hx
    exact op_catA pins s σ H _ _ v u Q I rx ry ⟨a, b, [], ys, rfl, rfl, ha, hb, hz, q0, fun z => absurd rfl z, fun z => absurd rfl z⟩
  · cases rx
    cases ry
    obtain ⟨us, r1, t1, _⟩ := I.tuple ha
    obtain ⟨ws, r2, t2, _⟩ := I.tuple hb
    refine HT.cat_tup t1 t2 (fun z => hx (r1.nil_iff.mp z)) (fun z => ⟨.ref a, H, I, rfl, q1 hx (r2.nil_iff.mp z)⟩) (fun z => ?_) (by rw [← r1.length, ← r2.length]; exact hz)
    exact lay_tup I (r1.append r2) (by rw [List.length_append]; exact hz) (q2 hx fun w => z (r2.nil_iff.mpr w))
theorem sl_tupF : SlR X (fun x lo hi H Q => ∃ a xs, x = .ref a ∧ SqT X.K H a xs ∧ (cutV xs lo hi = xs → Q (.ref a) H) ∧ NewT H Q (cutV xs lo hi)) := by
  intro pins s σ H x v vl vu lo hi sl Q I rx hs pl pu ⟨a, xs, ex, hx, q1, q2⟩
  subst ex
  by_cases hw : HT.sIx xs.length 0 lo = 0 ∧ HT.sIx xs.length xs.length hi = xs.length
  · have e : cutV xs lo hi = xs := by
      unfold cutV
      rw [hw.1, hw.2, List.drop_zero, Nat.sub_zero, List.take_length]
    exact sl_tupA pins s σ H _ v vl vu lo hi sl Q I rx hs pl pu ⟨a, xs, rfl, hx, fun _ => q1 e, fun z => absurd hw z⟩
  · cases rx
    obtain ⟨us, r, ht, hz⟩ := I.tuple hx
    have hl : us.toArray.size = xs.length := by rw [List.size_toArray, r.length]
    refine ⟨"tuple", _, PyProof.Rows.slot_tuple_getitem.lookup, ht.typeIs, HT.getItem_tuple_cut ht hs pl pu (by rw [hl]; exact hw) ?_ (by rw [hl]; exact hz)⟩
    rw [hl]
    exact lay_tup I ((r.drop (HT.sIx xs.length 0 lo)).take (HT.sIx xs.length xs.length hi - HT.sIx xs.length 0 lo)) (Nat.le_trans (cutV_length xs lo hi) hz) q2
theorem call_tupleF : CallR X (.type "tuple") (fun xs H Q => ∃ p ys, xs = [.ref p] ∧ ((SqL X.K H p ys ∧ NewT H Q ys) ∨ (SqT X.K H p ys ∧ Q (.ref p) H))) := by
  intro pins s σ H xs us Q I r ⟨p, ys, ex, h⟩
  subst ex
  rcases h with ⟨hq, q⟩ | ⟨hq, q⟩
  · obtain ⟨u, rfl, rx⟩ := vals1 r
    cases rx
    obtain ⟨ws, rw', pl, hz⟩ := I.list hq
    have hl := rw'.length
    refine call_tuple_list pl.isList (fun h' kp => ?_) (by rw [List.size_toArray]; omega)
    exact lay_tup (s := { s with heap := h' }) (I.kept (t' := s.toks) kp) rw' hz q
  · exact call_tuple_of pins s σ H _ us Q I r ⟨p, ys, rfl, .inr ⟨hq, q⟩⟩
end

/-! ### binary operators -/
section
variable {X : Cx}
theorem Rd.sq {K : PySem.W.Frag} {H : Hp} {a : Addr} {vs : List V} (h : Rd H a (.lst vs)) : SqL K H a vs := .inl h
theorem rpds_rep {F : Addr → Prop} {H : Hp} {vs : List V} {ds : List D} (r : RpDs F H vs ds) : ∀ n : Nat, RpDs F H (List.replicate n vs).flatten (List.replicate n ds).flatten
  | 0 => .nil
  | n + 1 => by
    rw [List.replicate_succ, List.replicate_succ, List.flatten_cons, List.flatten_cons]
    exact r.append (rpds_rep r n)
theorem flat_len {α : Type} (xs : List α) : ∀ n : Nat, (List.replicate n xs).flatten.length = n * xs.length
  | 0 => by simp
  | n + 1 => by rw [List.replicate_succ, List.flatten_cons, List.length_append, flat_len xs n, Nat.succ_mul, Nat.add_comm]
/-- tuple * int -/
theorem op_repF : OpR X (binaryOp .Mult) (fun x y H Q => ∃ l k xs, x = .ref l ∧ y = .int k ∧ SqT X.K H l xs ∧ xs ≠ [] ∧ 2 ≤ k ∧ k ≤ 1000 ∧ xs.length ≤ 1000 ∧ NewT H Q (List.replicate k.toNat xs).flatten) := by
  intro pins s σ H x y v u Q I rx ry ⟨l, k, xs, ex, ey, hT, hne, hk2, hk, hx, q⟩
  subst ex ey
  cases rx
  obtain ⟨t, rfl⟩ := ry
  obtain ⟨us, r, ⟨o, ho, hc, n, hd⟩, hs⟩ := I.tuple hT
  obtain ⟨cls, dd, data, sl⟩ := o
  change cls = _ at hc
  change data = _ at hd
  subst hc
  subst hd
  have hl : us.length = xs.length := r.length.symm
  have hsz : us.toArray.size = xs.length := by rw [List.size_toArray, hl]
  have hem : us.toArray.isEmpty = false := by
    cases us with
    | nil => exact absurd (List.eq_nil_of_length_eq_zero hl.symm) hne
    | cons _ _ => rfl
  have hprod : ((us.toArray.size : Nat) : Int) * k ≤ 1000000 := by
    rw [hsz]
    have := Int.mul_le_mul_of_nonneg_right (show (xs.length : Int) ≤ 1000 by omega) (show 0 ≤ k by omega)
    omega
  have hfl : (List.replicate k.toNat us).flatten.length ≤ sizeLine := by
    rw [flat_len, hl, sizeLine_eq]
    have := Nat.mul_le_mul (show k.toNat ≤ 1000 by omega) hx
    omega
  have b0 : (decide (k < -(2 ^ 63)) || decide (k ≥ 2 ^ 63)) = false := by
    simp only [Bool.or_eq_false_iff, decide_eq_false_iff_not]
    omega
  have b1 : (us.toArray.isEmpty || k == 1) = false := by
    simp only [hem, Bool.false_or, beq_eq_false_iff_ne]
    omega
  have b2 : (decide (k ≤ 0) || us.toArray.isEmpty) = false := by
    simp only [hem, Bool.or_false, decide_eq_false_iff_not]
    omega
  have b4 : Builtin.Tuple.tupleTooMany (((us.toArray.size : Nat) : Int) * k) = false := by
    unfold Builtin.Tuple.tupleTooMany
    simp only [sizeLine_eq, decide_eq_false_iff_not]
    omega
  have mul := tuple_mulW l us.toArray n dd sl k t b0 b1 b2 (by omega) b4 (by rw [size_rep, List.size_toArray]; exact hfl)
  refine PySem.wpAny_binaryOp_repeat_ref (T := "tuple") (U := "int") (by decide) ⟨_, ho, rfl⟩ (fun s' => typeIs_int s' k t) noFill_tuple_mul F.fills_int_mul F.slot_int_rmul repeat_tuple F.slot_int_index.lookup ?_
  refine call_meets F.slot_int_rmul (typeIs_int s k t) F.entry_int_rmul (F.args_int_rmul_2 _ _) (int_rmul_tuple k t l us.toArray n dd sl) ⟨ho, rfl, ⟨_, ho, rfl⟩, ?_⟩
  refine call_meets F.slot_tuple_mul ⟨_, ho, rfl⟩ F.entry_tuple_mul (F.args_tuple_mul_2 _ _) mul ⟨ho, ?_⟩
  rw [size_rep]
  have hfx : (List.replicate k.toNat xs).flatten.length ≤ sizeLine := by rw [flat_len, ← hl, ← flat_len]; exact hfl
  exact lay_tup I (r.rep k.toNat) hfx q
/-- what an operator is asked: two values that stand for data, and an outcome -/
def rOp (f : D → D → Option D) : R2 := fun x y H Q => ∃ F π M u1 u2 d e w, MemR F π H M ∧ RpU F π H x u1 ∧ RpU F π H y u2 ∧ val M u1 = some d ∧ val M u2 = some e ∧ f d e = some w ∧ SQ F π H Q (.p w) M
theorem mul_ok {a b : Int} (h : mulOk a b = true) : IntMulOk a b := by
  unfold mulOk at h
  simp only [Bool.or_eq_true, Bool.and_eq_true, decide_eq_true_eq] at h
  rcases h with (h | h) | h
  · exact CMul.ok (.inl ⟨by omega, by omega⟩)
  · exact CMul.ok (.inr ⟨by omega, by omega⟩)
  · exact CMulW.ok (show _ < _ by omega)
theorem op_add' : OpR X (binaryOp .Add) (rOp (bop .add)) := by
  intro pins s σ H x y v u Q I rx ry h
  obtain ⟨F, π, M, u1, u2, d, e, w, m, r1, r2, h1, h2, hw, q⟩ := h
  cases d with
  | int i =>
    cases e with
    | int j =>
      cases hw
      cases val_int m r1 h1
      cases val_int m r2 h2
      exact op_add pins s σ H _ _ v u Q I rx ry ⟨i, j, rfl, rfl, q.same m rfl (.p (.int _))⟩
    | _ => cases hw
  | str i =>
    cases e with
    | str j =>
      simp only [bop] at hw
      split at hw
      · rename_i hl
        cases hw
        cases val_str m r1 h1
        cases val_str m r2 h2
        exact op_add_str pins s σ H _ _ v u Q I rx ry ⟨i, j, rfl, rfl, hl, q.same m rfl (.p (.str _))⟩
      · cases hw
    | _ => cases hw
  | tuple xs =>
    cases e with
    | tuple ys =>
      simp only [bop] at hw
      split at hw
      · rename_i hl
        cases hw
        obtain ⟨a, oa, vs, rfl, ha, da, ra⟩ := val_tup m r1 h1
        obtain ⟨b, ob, ws, rfl, hb, db, rb⟩ := val_tup m r2 h2
        have e1 := ra.length
        have e2 := rb.length
        refine op_catF pins s σ H _ _ v u Q I rx ry ⟨a, b, vs, ws, rfl, rfl, .inl (.inr ⟨_, ha⟩), .inl (.inr ⟨_, hb⟩), by omega, fun z => ?_, fun z1 z2 => ?_, fun z1 z2 p o hp ho => q.tup m (ra.append rb) hp ho⟩
        · subst z
          cases ra
          exact q.same m rfl (.p (.tup hb db rb))
        · subst z2
          cases rb
          rw [List.append_nil] at q
          exact q.same m rfl (.p (.tup ha da ra))
      · cases hw
    | _ => cases hw
  | list xs =>
    cases e with
    | list ys =>
      simp only [bop] at hw
      split at hw
      · rename_i hl
        cases hw
        obtain ⟨a, vs, rfl, ha, ra⟩ := val_lst m r1 h1
        obtain ⟨b, ws, rfl, hb, rb⟩ := val_lst m r2 h2
        have e1 := ra.length
        have e2 := rb.length
        exact op_cat pins s σ H _ _ v u Q I rx ry ⟨a, b, vs, ws, rfl, rfl, ha, hb, by omega, fun p hp => q.lst m rfl (show LstR F π H _ _ from ra.append rb) hp⟩
      · cases hw
    | _ => cases hw
  | none => cases hw
  | bool _ => cases hw
  | dict _ => cases hw
/-- ints alone -/
theorem op_ints {op : Operator} {o : BO} {C : Int → Int → Prop} {g : Int → Int → Int} (ho : OpR X (binaryOp op) (rI C fun i j => .int (g i j)))
    (hb : ∀ d e w, bop o d e = some w → (∃ i j, d = .int i ∧ e = .int j ∧ w = .int (g i j) ∧ C i j)) : OpR X (binaryOp op) (rOp (bop o)) := by
  intro pins s σ H x y v u Q I rx ry h
  obtain ⟨F, π, M, u1, u2, d, e, w, m, r1, r2, h1, h2, hw, q⟩ := h
  obtain ⟨i, j, rfl, rfl, rfl, hc⟩ := hb d e w hw
  cases val_int m r1 h1
  cases val_int m r2 h2
  exact ho pins s σ H _ _ v u Q I rx ry ⟨i, j, rfl, rfl, hc, q.same m rfl (.p (.int _))⟩
theorem op_sub' : OpR X (binaryOp .Sub) (rOp (bop .sub)) := op_ints (C := fun _ _ => True) (g := fun i j => i - j) (fun pins s σ H x y v u Q I rx ry ⟨i, j, e1, e2, _, q⟩ => op_sub pins s σ H x y v u Q I rx ry ⟨i, j, e1, e2, q⟩) fun d e w h => by
  cases d <;> cases e <;> simp only [bop] at h <;> first | (cases h; done) | (cases h; exact ⟨_, _, rfl, rfl, rfl, trivial⟩)
theorem op_fdiv' : OpR X (binaryOp .FloorDiv) (rOp (bop .fdiv)) := op_ints (g := fun i j => i / j) op_fdivW fun d e w h => by
  cases d <;> cases e <;> simp only [bop] at h <;> first | (cases h; done) | (split at h <;> first | (cases h; done) | (rename_i hc; cases h; exact ⟨_, _, rfl, rfl, rfl, hc⟩))
theorem op_mod' : OpR X (binaryOp .Mod) (rOp (bop .mod)) := op_ints (g := fun i j => i % j) op_mod fun d e w h => by
  cases d <;> cases e <;> simp only [bop] at h <;> first | (cases h; done) | (split at h <;> first | (cases h; done) | (rename_i hc; cases h; exact ⟨_, _, rfl, rfl, rfl, hc⟩))
theorem op_pow' : OpR X (binaryOp .Pow) (rOp (bop .pow)) := op_ints (g := fun i j => i ^ j.toNat) op_pow fun d e w h => by
  cases d <;> cases e <;> simp only [bop] at h <;> first | (cases h; done) | (split at h <;> first | (cases h; done) | (rename_i hc; cases h; exact ⟨_, _, rfl, rfl, rfl, ⟨hc.1, by omega, hc.2.2⟩⟩))
theorem op_mul' : OpR X (binaryOp .Mult) (rOp (bop .mul)) := by
  intro pins s σ H x y v u Q I rx ry h
  obtain ⟨F, π, M, u1, u2, d, e, w, m, r1, r2, h1, h2, hw, q⟩ := h
  cases e with
  | int j =>
    cases val_int m r2 h2
    cases d with
    | int i =>
      simp only [bop] at hw
      split at hw
      · rename_i hc
        cases hw
        cases val_int m r1 h1
        obtain ⟨t, rfl⟩ := rx
        obtain ⟨t', rfl⟩ := ry
        exact PyProof.Rows.mul_int ⟨.int _, H, I.tok _, ⟨_, rfl⟩, q.same m rfl (.p (.int _))⟩ (mul_ok hc)
      · cases hw
    | tuple xs =>
      simp only [bop] at hw
      split at hw
      · rename_i hc
        cases hw
        obtain ⟨a, oa, vs, rfl, ha, da, ra⟩ := val_tup m r1 h1
        have e1 := ra.length
        refine op_repF pins s σ H _ _ v u Q I rx ry ⟨a, j, vs, rfl, rfl, .inl (.inr ⟨_, ha⟩), fun z => hc.1 ?_, hc.2.1, hc.2.2.1, by omega, fun p o hp ho => q.tup m (rpds_rep ra _) hp ho⟩
        subst z
        cases ra
        rfl
      · cases hw
    | list xs =>
      simp only [bop] at hw
      split at hw
      · rename_i hc
        cases hw
        obtain ⟨a, vs, rfl, ha, ra⟩ := val_lst m r1 h1
        have e1 := ra.length
        have hz : vs.length * j.toNat ≤ sizeLine := by
          have : vs.length * j.toNat ≤ 1000 * 1000 := Nat.mul_le_mul (by omega) (by omega)
          rw [sizeLine_eq]; omega
        exact op_rep pins s σ H _ _ v u Q I rx ry ⟨a, j, vs, rfl, rfl, ha, by omega, by omega, hz, fun p hp => q.lst m rfl (show LstR F π H _ _ from rpds_rep ra _) hp⟩
      · cases hw
    | _ => cases hw
  | _ => cases d <;> cases hw
end
end VW
end
section
set_option maxHeartbeats 1000000
/-! Comparisons, items, slices over what stands for data. -/
namespace VW
open PySem PySem.Spec L2
section
variable {X : Cx}
def rCo (f : D → D → Option Bool) : R2 := fun x y H Q => ∃ d e b, Dp X.K H x d ∧ Dp X.K H y e ∧ f d e = some b ∧ Q (.bl b) H
theorem co_eq (hu : X.A.units + 64 < cLine) : OpR X (compareOp .Eq) (rCo (X := X) (cop .eq)) := by
  intro pins s σ H x y v u Q I rx ry ⟨d, e, b, hd, he, hb, q⟩
  simp only [cop, eqD] at hb
  split at hb
  · rename_i hs
    cases hb
    rw [Bool.and_eq_true] at hs
    exact op_eqD hu pins s σ H x y v u Q I rx ry ⟨d, e, hd, he, hs.1, hs.2, q⟩
  · cases hb
theorem co_ne (hu : X.A.units + 64 < cLine) : OpR X (compareOp .NotEq) (rCo (X := X) (cop .ne)) := by
  intro pins s σ H x y v u Q I rx ry ⟨d, e, b, hd, he, hb, q⟩
  simp only [cop, eqD] at hb
  split at hb
  · rename_i hs
    cases hb
    rw [Bool.and_eq_true] at hs
    exact op_neD hu pins s σ H x y v u Q I rx ry ⟨d, e, hd, he, hs.1, hs.2, q⟩
  · cases hb
theorem co_int {op : CmpOp} {o : CO} {g : Int → Int → Bool} (ho : OpR X (compareOp op) (rI0 fun i j => .bl (g i j))) (hc : ∀ d e b, cop o d e = some b → ∃ i j, d = .int i ∧ e = .int j ∧ b = g i j) : OpR X (compareOp op) (rCo (X := X) (cop o)) := by
  intro pins s σ H x y v u Q I rx ry ⟨d, e, b, hd, he, hb, q⟩
  obtain ⟨i, j, rfl, rfl, rfl⟩ := hc d e b hb
  cases hd
  cases he
  exact ho pins s σ H _ _ v u Q I rx ry ⟨i, j, rfl, rfl, q⟩
theorem co_le : OpR X (compareOp .LtE) (rCo (X := X) (cop .le)) := co_int op_le fun d e b h => by
  cases d <;> cases e <;> simp only [cop] at h <;> first | (cases h; done) | (cases h; exact ⟨_, _, rfl, rfl, rfl⟩)
theorem co_gt : OpR X (compareOp .Gt) (rCo (X := X) (cop .gt)) := co_int op_gt fun d e b h => by
  cases d <;> cases e <;> simp only [cop] at h <;> first | (cases h; done) | (cases h; exact ⟨_, _, rfl, rfl, rfl⟩)
theorem co_ge : OpR X (compareOp .GtE) (rCo (X := X) (cop .ge)) := co_int op_ge fun d e b h => by
  cases d <;> cases e <;> simp only [cop] at h <;> first | (cases h; done) | (cases h; exact ⟨_, _, rfl, rfl, rfl⟩)
theorem co_lt : OpR X (compareOp .Lt) (rCo (X := X) (cop .lt)) := by
  intro pins s σ H x y v u Q I rx ry ⟨d, e, b, hd, he, hb, q⟩
  cases d with
  | int i =>
    cases e with
    | int j =>
      cases hb
      cases hd
      cases he
      exact op_lt pins s σ H _ _ v u Q I rx ry ⟨i, j, rfl, rfl, q⟩
    | _ => cases hb
  | str i =>
    cases e with
    | str j =>
      cases hb
      cases hd
      cases he
      exact op_lt_str pins s σ H _ _ v u Q I rx ry ⟨i, j, rfl, rfl, q⟩
    | _ => cases hb
  | _ => cases e <;> cases hb
theorem dpall_len {K : PySem.W.Frag} {H : Hp} : ∀ {vs : List V} {ds : List D}, DpAll K H vs ds → vs.length = ds.length
  | _, _, .nil => rfl
  | _, _, .cons _ t => by rw [List.length_cons, List.length_cons, dpall_len t]
theorem flat_v {K : PySem.W.Frag} {H : Hp} {v : V} {d : D} (h : Dp K H v d) (f : flatD d = true) : flatV v = true := by
  cases h <;> first | rfl | cases f
theorem flat_vs {K : PySem.W.Frag} {H : Hp} : ∀ {vs : List V} {ds : List D}, DpAll K H vs ds → ds.all flatD = true → vs.all flatV = true
  | _, _, .nil, _ => rfl
  | _, _, .cons h t, f => by
    rw [List.all_cons, Bool.and_eq_true] at f ⊢
    exact ⟨flat_v h f.1, flat_vs t f.2⟩
theorem eqv_flat {K : PySem.W.Frag} {H : Hp} {v w : V} {d e : D} (h : Dp K H v d) (h' : Dp K H w e) (f : flatD d = true) (f' : flatD e = true) : eqV v w = PyData.eqv d e := by
  cases h <;> cases h' <;> first | (cases f; done) | (cases f'; done) | (simp [eqV, PyData.eqv])
theorem inV_flat {K : PySem.W.Frag} {H : Hp} {w : V} {e : D} (h' : Dp K H w e) (f' : flatD e = true) : ∀ {vs : List V} {ds : List D}, DpAll K H vs ds → ds.all flatD = true → inV w vs = ds.any fun z => PyData.eqv z e
  | _, _, .nil, _ => rfl
  | _, _, .cons h t, f => by
    rw [List.all_cons, Bool.and_eq_true] at f
    show (eqV _ w || inV w _) = _
    rw [eqv_flat h h' f.1 f', inV_flat h' f' t f.2]
    rfl
theorem co_in (hu : X.A.units + 65 < cLine) : OpR X (compareOp .In) (rCo (X := X) (cop .isin)) := by
  intro pins s σ H x y v u Q I rx ry ⟨d, e, b, hd, he, hb, q⟩
  cases e with
  | str j =>
    cases d with
    | str i =>
      cases hb
      cases hd
      cases he
      exact op_in_str pins s σ H _ _ v u Q I rx ry ⟨i, j, rfl, rfl, q⟩
    | _ => cases hb
  | tuple zs =>
    simp only [cop, inD] at hb
    split at hb
    · rename_i hs
      cases hb
      rw [Bool.and_eq_true] at hs
      cases he with
      | tup ht hz =>
        refine op_in_seq pins s σ H _ _ v u Q I rx ry ⟨_, _, rfl, .inr ht, flat_v hd hs.1, flat_vs hz hs.2, ?_⟩
        rw [if_neg Bool.false_ne_true, inV_flat hd hs.1 hz hs.2]
        exact q
    · cases hb
  | list zs =>
    simp only [cop, inD] at hb
    split at hb
    · rename_i hs
      cases hb
      rw [Bool.and_eq_true] at hs
      exact op_inD hu pins s σ H _ _ v u Q I rx ry ⟨d, zs, hd, he, hs.1, hs.2, q⟩
    · cases hb
  | _ => cases hb
theorem co_notin (hu : X.A.units + 65 < cLine) : OpR X (compareOp .NotIn) (rCo (X := X) (cop .notin)) := by
  intro pins s σ H x y v u Q I rx ry ⟨d, e, b, hd, he, hb, q⟩
  cases e with
  | str j =>
    cases d with
    | str i =>
      cases hb
      cases hd
      cases he
      exact op_notin_str pins s σ H _ _ v u Q I rx ry ⟨i, j, rfl, rfl, q⟩
    | _ => cases hb
  | tuple zs =>
    simp only [cop, inD] at hb
    split at hb
    · rename_i hs
      cases hb
      rw [Bool.and_eq_true] at hs
      cases he with
      | tup ht hz =>
        refine op_notIn_seq pins s σ H _ _ v u Q I rx ry ⟨_, _, rfl, .inr ht, flat_v hd hs.1, flat_vs hz hs.2, ?_⟩
        rw [if_pos rfl, inV_flat hd hs.1 hz hs.2]
        exact q
    · cases hb
  | list zs =>
    simp only [cop, inD] at hb
    split at hb
    · rename_i hs
      cases hb
      rw [Bool.and_eq_true] at hs
      exact op_notInD hu pins s σ H _ _ v u Q I rx ry ⟨d, zs, hd, he, hs.1, hs.2, q⟩
    · cases hb
  | _ => cases hb
theorem none_v {K : PySem.W.Frag} {H : Hp} {v : V} {d : D} (h : Dp K H v d) : decide (v = .non) = isNone d := by
  cases h <;> rfl
theorem co_isN : OpR X (compareOp .Is) (rCo (X := X) (cop .isN)) := by
  intro pins s σ H x y v u Q I rx ry ⟨d, e, b, hd, he, hb, q⟩
  cases e with
  | none =>
    simp only [cop] at hb
    cases hb
    cases he
    exact op_isN pins s σ H _ _ v u Q I rx ry ⟨rfl, by rw [none_v hd]; exact q⟩
  | _ => cases d <;> cases hb
theorem co_notN : OpR X (compareOp .IsNot) (rCo (X := X) (cop .notN)) := by
  intro pins s σ H x y v u Q I rx ry ⟨d, e, b, hd, he, hb, q⟩
  cases e with
  | none =>
    simp only [cop] at hb
    cases hb
    cases he
    exact op_notN pins s σ H _ _ v u Q I rx ry ⟨rfl, by rw [none_v hd]; exact q⟩
  | _ => cases d <;> cases hb
/-- which comparison stands for which -/
def coB : CO → CmpOp → Bool
  | .eq, .Eq => true
  | .ne, .NotEq => true
  | .lt, .Lt => true
  | .le, .LtE => true
  | .gt, .Gt => true
  | .ge, .GtE => true
  | .isin, .In => true
  | .notin, .NotIn => true
  | .isN, .Is => true
  | .notN, .IsNot => true
  | _, _ => false
theorem co_ok (hu : X.A.units + 65 < cLine) {o : CO} {op : CmpOp} (h : coB o op = true) : OpR X (compareOp op) (rCo (X := X) (cop o)) := by
  have hv : X.A.units + 64 < cLine := by omega
  cases o <;> cases op <;> first | (cases h; done) | exact co_eq hv | exact co_ne hv | exact co_lt | exact co_le | exact co_gt | exact co_ge | exact co_in hu | exact co_notin hu | exact co_isN | exact co_notN
def boB : BO → Operator → Bool
  | .add, .Add => true
  | .sub, .Sub => true
  | .mul, .Mult => true
  | .fdiv, .FloorDiv => true
  | .mod, .Mod => true
  | .pow, .Pow => true
  | _, _ => false
theorem bo_ok {o : BO} {op : Operator} (h : boB o op = true) : OpR X (binaryOp op) (rOp (bop o)) := by
  cases o <;> cases op <;> first | (cases h; done) | exact op_add' | exact op_sub' | exact op_mul' | exact op_fdiv' | exact op_mod' | exact op_pow'

/-! ### items -/
theorem atI_rp {F : Addr → Prop} {H : Hp} {vs : List V} {ds : List D} {i : Int} {d : D} (r : RpDs F H vs ds) (h : atI ds i = some d) : ∃ v, atI vs i = some v ∧ RpD F H v d := by
  unfold atI at h ⊢
  rw [r.length]
  cases e : L2.ixN ds.length i with
  | none => rw [e] at h; cases h
  | some j =>
    rw [e] at h
    exact r.get h
theorem atI_nm {π : List Addr} {vs : List V} {ns : List Nat} {i : Int} {n : Nat} (r : NmR π vs ns) (h : atI ns i = some n) : ∃ a, atI vs i = some (.ref a) ∧ π[n]? = some a := by
  unfold atI at h ⊢
  rw [r.length]
  cases e : L2.ixN ns.length i with
  | none => rw [e] at h; cases h
  | some j =>
    rw [e] at h
    exact r.get h
def rIxU : R2 := fun x y H Q => ∃ F π M u1 u2 w, MemR F π H M ∧ RpU F π H x u1 ∧ RpU F π H y u2 ∧ ixU M u1 u2 = some w ∧ (∀ v, RpU F π H v w → Q v H)
theorem names_rp {F : Addr → Prop} {π : List Addr} {H : Hp} {M : Mem} (m : MemR F π H M) {v : V} {u : U} {ns : List Nat} (r : RpU F π H v u) (h : names M u = some ns) : ∃ a vs, v = .ref a ∧ H a = some (.lst vs) ∧ NmR π vs ns := by
  cases u with
  | p _ => cases h
  | scr _ => cases h
  | rl ms =>
    cases h
    cases r with
    | rl f e q => exact ⟨_, _, rfl, e, q⟩
  | ref n =>
    cases r with
    | ref hn =>
      simp only [names] at h
      split at h
      · rename_i ms hm
        cases h
        obtain ⟨vs, e, q⟩ := m.cell n _ _ hm hn
        exact ⟨_, vs, rfl, e, q⟩
      · cases h
theorem ix_ok : IxR X rIxU := by
  intro value slice pins s σ H x y v u Q I rx ry ⟨F, π, M, u1, u2, w, m, r1, r2, hw, q⟩ hs
  unfold ixU at hw
  split at hw
  · rename_i ns i hn hi
    cases e : atI ns i with
    | none => rw [e] at hw; cases hw
    | some n =>
      rw [e] at hw
      cases hw
      obtain ⟨a, vs, rfl, ha, rn⟩ := names_rp m r1 hn
      cases val_int m r2 hi
      obtain ⟨b, hb, hp⟩ := atI_nm rn e
      exact ix_list value slice pins s σ H _ _ v u Q I rx ry ⟨a, vs, i, .ref b, rfl, rfl, .inl (.inl ha), hb, q _ (.ref hp)⟩ hs
  · split at hw
    · rename_i d e hd he
      cases e with
      | int i =>
        cases val_int m r2 he
        cases d with
        | str z =>
          simp only [ixD] at hw
          split at hw
          · rename_i hz
            cases e2 : atI z.cps.toList i with
            | none => rw [e2] at hw; cases hw
            | some c =>
              rw [e2] at hw
              cases hw
              cases rdv_dp (K := X.K) m r1 hd
              exact ix_str value slice pins s σ H _ _ v u Q I rx ry ⟨z, i, c, rfl, rfl, hz, e2, q _ (.p (.str _))⟩ hs
          · cases hw
        | tuple ds =>
          simp only [ixD] at hw
          cases e2 : atI ds i with
          | none => rw [e2] at hw; cases hw
          | some d =>
            rw [e2] at hw
            cases hw
            obtain ⟨a, vs, rfl, ha, ra⟩ := rdv_seq (K := X.K) m r1 hd rfl
            obtain ⟨b, hb, hr⟩ := atI_rp ra e2
            rcases ha with ha | ha
            · exact ix_list value slice pins s σ H _ _ v u Q I rx ry ⟨a, vs, i, b, rfl, rfl, ha, hb, q _ (.p hr)⟩ hs
            · exact ix_tup value slice pins s σ H _ _ v u Q I rx ry ⟨a, vs, i, b, rfl, rfl, ha, hb, q _ (.p hr)⟩ hs
        | list ds =>
          simp only [ixD] at hw
          cases e2 : atI ds i with
          | none => rw [e2] at hw; cases hw
          | some d =>
            rw [e2] at hw
            cases hw
            obtain ⟨a, vs, rfl, ha, ra⟩ := rdv_seq (K := X.K) m r1 hd rfl
            obtain ⟨b, hb, hr⟩ := atI_rp ra e2
            rcases ha with ha | ha
            · exact ix_list value slice pins s σ H _ _ v u Q I rx ry ⟨a, vs, i, b, rfl, rfl, ha, hb, q _ (.p hr)⟩ hs
            · exact ix_tup value slice pins s σ H _ _ v u Q I rx ry ⟨a, vs, i, b, rfl, rfl, ha, hb, q _ (.p hr)⟩ hs
        | _ => cases hw
      | _ => cases d <;> cases hw
    · cases hw

/-! ### slices -/
theorem cut_rp {F : Addr → Prop} {H : Hp} {vs : List V} {ds : List D} (r : RpDs F H vs ds) (lo hi : Option Int) : RpDs F H (cutV vs lo hi) (cut ds lo hi) := by
  unfold cutV cut
  rw [r.length]
  exact (r.drop _).take _
def rSlU : V → Option Int → Option Int → Hp → VK → Prop := fun x lo hi H Q => ∃ F π M u d w, MemR F π H M ∧ RpU F π H x u ∧ val M u = some d ∧
  slD d lo hi = some w ∧ SQ F π H Q (.p w) M
theorem sl_ok : SlR X rSlU := by
  intro pins s σ H x v vl vu lo hi sl Q I rx hs pl pu ⟨F, π, M, u, d, w, m, r, hd, hw, q⟩
  cases d with
  | str z =>
    simp only [slD] at hw
    split at hw
    · rename_i hz
      cases hw
      cases val_str m r hd
      exact sl_str pins s σ H _ v vl vu lo hi sl Q I rx hs pl pu ⟨z, rfl, hz, q.same m rfl (.p (.str _))⟩
    · cases hw
  | tuple ds =>
    cases hw
    obtain ⟨a, o, vs, rfl, ha, da, ra⟩ := val_tup m r hd
    refine sl_tupF pins s σ H _ v vl vu lo hi sl Q I rx hs pl pu ⟨a, vs, rfl, .inl (.inr ⟨_, ha⟩), fun z => ?_, fun p o hp ho => q.tup m (cut_rp ra lo hi) hp ho⟩
    have rc := cut_rp ra lo hi
    rw [z] at rc
    exact q.same m rfl (.p (.tup ha da rc))
  | list ds =>
    cases hw
    obtain ⟨a, vs, rfl, ha, ra⟩ := val_lst m r hd
    exact sl_list pins s σ H _ v vl vu lo hi sl Q I rx hs pl pu ⟨a, vs, rfl, .inl (.inl ha), fun p hp => q.lst m rfl (show LstR F π H _ _ from cut_rp ra lo hi) hp⟩
  | _ => cases hw
end
end VW
end
section
set_option maxHeartbeats 1000000
/-! Expressions: what the interpreter tells is what the model does. -/
namespace VW
open PySem PySem.Spec L2

/-- what a def of the program is asked and promises, by the interpreter -/
def spI (ca : Str → Addr) (φ : List U → Mem → R U) (ps : List Str) : Sp := fun vs H Q E => ∃ F π M us, MemR F π H M ∧ RpUs F π H vs us ∧ us.length = ps.length ∧ Out ca E F π H (φ us M) (VQ F π H Q)

/-- the program as far as it is static: its defs' parameters, its constants, the built-in names that it leaves alone -/
structure St0 where
  ar : List (Str × List Str)
  consts : List (Str × D)
  free : List Str
  excs : List Str
  told : Option Str := none
  tolds : List (Str × Str) := []

/-- where one stands -/
structure Good (G : St0) (ca : Str → Addr) (X : Cx) (sc : Scope) (fc : Str → Bool) (k : Nat) (Φ : Fn) (E : XK) : Prop where
  calm : X.calm = true
  nd : X.N.Nodup
  scope : X.env.scope = sc
  fnc : ∀ x, fc x = true → X.fn x = true
  room : Room k X.A
  pass : Passes (L2N.CX X.prog X.w) X E
  free : ∀ x ∈ G.free, X.mg x = none
  glob : ∀ x d, G.consts.lookup x = some d → ∃ v u, X.mg x = some u ∧ RelV v u ∧ ∀ F H, RpD F H v d
  fns : ∀ f ps, G.ar.lookup f = some ps → ∃ fa fd, X.mg f = some (.ref fa) ∧ PySem.W.keepIn X.K (.ref fa) = true ∧ Binds X.K fd ps [] ∧ FnOk X.prog X.w X.K X.mg X.base (L2N.CX X.prog X.w) k fa fd ps (spI ca (Φ f) ps)

section
variable (ca : Str → Addr) (Φ : Fn) (E : XK)
def tE (c : CE) : TE := fun σ H Q => ∃ F π ρ M, EnvR F π H ρ σ ∧ MemR F π H M ∧ Out ca E F π H (evE Φ c ρ M) (VQ F π H Q)
def tS (c : CE) : TE := fun σ H Q => ∃ F π ρ M, EnvR F π H ρ σ ∧ MemR F π H M ∧ Out ca E F π H (evE Φ c ρ M) (SQ F π H Q)
def BQ (F : Addr → Prop) (π : List Addr) (H : Hp) (Q : Bool → Hp → Prop) : U → Mem → Prop := fun u M' => ∃ b, u = .p (.bool b) ∧ ∀ F' π' H', Post F π H F' π' H' → MemR F' π' H' M' → Q b H'
def tT (c : CE) : TT := fun σ H Q => ∃ F π ρ M, EnvR F π H ρ σ ∧ MemR F π H M ∧ Out ca E F π H (evE Φ c ρ M) (BQ F π H Q)
def LQ (F : Addr → Prop) (π : List Addr) (H : Hp) (Q : List V → Hp → Prop) : List U → Mem → Prop := fun us M' => ∀ vs F' π' H', Post F π H F' π' H' → MemR F' π' H' M' → RpUs F' π' H' vs us → Q vs H'
def tL (cs : CEs) : TA := fun σ H Q => ∃ F π ρ M, EnvR F π H ρ σ ∧ MemR F π H M ∧ Out ca E F π H (evL Φ cs ρ M) (LQ F π H Q)
def tBs (k : Bool) (cs : CEs) : TT := fun σ H Q => ∃ F π ρ M, EnvR F π H ρ σ ∧ MemR F π H M ∧ Out ca E F π H (evB Φ k cs ρ M) (BQ F π H Q)
def tBv (k : Bool) (cs : CEs) : TE := fun σ H Q => ∃ F π ρ M, EnvR F π H ρ σ ∧ MemR F π H M ∧ Out ca E F π H (evB Φ k cs ρ M) (VQ F π H Q)
end

theorem PE.imp {X : Cx} {e : Expr} {t t' : TE} (h : PE X e t) (i : ∀ σ H Q, t' σ H Q → t σ H Q) : PE X e t' := ⟨fun pins s σ H Q I q => h.run pins s σ H Q I (i σ H Q q)⟩
theorem PT.imp {X : Cx} {e : Expr} {t t' : TT} (h : PT X e t) (i : ∀ σ H Q, t' σ H Q → t σ H Q) : PT X e t' := ⟨fun pins s σ H Q I q => h.run pins s σ H Q I (i σ H Q q)⟩
theorem PW.imp {X : Cx} {e : Expr} {t t' : TT} (h : PW X e t) (i : ∀ σ H Q, t' σ H Q → t σ H Q) : PW X e t' := ⟨fun wh pins s σ H Q I q => h.run wh pins s σ H Q I (i σ H Q q)⟩
theorem PA.imp {X : Cx} {es : List Expr} {t t' : TA} (h : PA X es t) (i : ∀ σ H Q, t' σ H Q → t σ H Q) : PA X es t' := ⟨fun p pins s σ H Q I q => h.run p pins s σ H Q I (i σ H Q q)⟩

/-- no star, no slice, no set -/
def plainE : Expr → Bool
  | .Starred _ _ => false
  | .Slice _ _ _ _ => false
  | .Set _ _ _ => false
  | _ => true
theorem star_plain {e : Expr} (h : plainE e = true) (es : List Expr) (env : PySem.Env) : starEach (e :: es) env = (false, eval e env) :: starEach es env := by
  cases e <;> first | rfl | cases h
theorem ix_plain {e : Expr} (h : plainE e = true) : PlainIx e := fun _ _ => by
  cases e <;> first | rfl | cases h
theorem in_plain {e : Expr} (h : plainE e = true) (op : CmpOp) : behindInMarks op e = false := by
  cases e <;> first | rfl | cases h
theorem nostar {es : List Expr} (env : PySem.Env) (pos : Pos) (h : es.all plainE = true) : (backTo pos (starEach es env)).any (·.1) = false := by
  induction es with
  | nil => rfl
  | cons e es ih =>
    rw [List.all_cons, Bool.and_eq_true] at h
    rw [star_plain h.1]
    cases es with
    | nil => rfl
    | cons e2 es2 =>
      have q := ih h.2
      unfold backTo at q ⊢
      simpa using q

section
variable {G : St0} {ca : Str → Addr} {X : Cx} {sc : Scope} {fc : Str → Bool} {k : Nat} {Φ : Fn} {E : XK} {pos : Pos}
theorem tS_tE {e : Expr} {c : CE} (h : PE X e (tS ca Φ E c)) : PE X e (tE ca Φ E c) :=
  PE.imp h fun σ H Q ⟨F, π, ρ, M, hr, hm, h⟩ => ⟨F, π, ρ, M, hr, hm, h.imp fun _ _ z => z.strong⟩
/-- a value that is a bool, as a test -/
theorem tE_tT {e : Expr} {c : CE} (h : PE X e (tE ca Φ E c)) (he : ∀ whole, isTrue e X.env whole = (do let v ← whole; standAt e.pos; holding [v] (truthy v))) : PT X e (tT ca Φ E c) := by
  refine PT.imp (pt_val h he) fun σ H Q ⟨F, π, ρ, M, hr, hm, h⟩ => ⟨F, π, ρ, M, hr, hm, h.imp fun u M1 z => ?_⟩
  obtain ⟨b, rfl, z⟩ := z
  intro v F1 π1 H1 p1 m1 r1
  cases r1 with
  | p r =>
    cases r
    exact ⟨b, rfl, z F1 π1 H1 p1 m1⟩

def visB (sc : Scope) (x : Str) : Bool := match sc.names.lookup x with
  | some .local => true
  | some .cell => true
  | some .free => true
  | _ => false
theorem vis_of {x : Str} (h : visB sc x = true) : Vis sc x := by
  unfold visB at h
  unfold Vis
  split at h <;> simp_all
def okName (x : Str) : Bool := !(x == ("__debug__" : Str)) && !(x == ("__classdict__" : Str)) && !(x == ("__name__" : Str))
def glB (sc : Scope) (x : Str) : Bool := match sc.names.lookup x with
  | some .globalImplicit => true
  | _ => false
theorem Good.gl (g : Good G ca X sc fc k Φ E) {x : Str} (h : glB sc x = true) : Gl X x := by
  unfold Gl Env.kindOf
  rw [g.scope]
  unfold glB at h
  split at h <;> first | assumption | cases h
theorem okName_of {x : Str} (h : okName x = true) : (x == ("__debug__" : Str)) = false ∧ (x == ("__classdict__" : Str)) = false ∧ x ≠ "__name__" := by
  unfold okName at h
  simp only [Bool.and_eq_true, Bool.not_eq_true', beq_eq_false_iff_ne] at h
  exact ⟨beq_eq_false_iff_ne.mpr h.1.1, beq_eq_false_iff_ne.mpr h.1.2, h.2⟩

theorem l_var (g : Good G ca X sc fc k Φ E) {i : Nat} {x : Str} (hN : X.N[i]? = some x) (hv : visB sc x = true) (ho : okName x = true) : PE X (.Name x pos) (tE ca Φ E (.var i)) := by
  refine PE.imp (pe_var hN (by rw [g.scope]; exact vis_of hv) (okName_of ho).1 (okName_of ho).2.1) fun σ H Q ⟨F, π, ρ, M, hr, hm, h⟩ => ?_
  simp only [evE] at h
  split at h
  · rename_i u hu
    obtain ⟨v, e, r⟩ := hr.get i u hu
    exact ⟨v, e, h v F π H Post.refl hm r⟩
  · exact False.elim h
theorem l_none {j : Nat} : PE X (.Constant .none j pos) (tE ca Φ E (.lit .none)) :=
  PE.imp pe_non fun σ H Q ⟨F, π, ρ, M, hr, hm, h⟩ => h _ F π H Post.refl hm (.p .non)
theorem l_bool {j : Nat} {b : Bool} : PE X (.Constant (.bool b) j pos) (tE ca Φ E (.lit (.bool b))) :=
  PE.imp pe_bl fun σ H Q ⟨F, π, ρ, M, hr, hm, h⟩ => h _ F π H Post.refl hm (.p (.bl b))
theorem l_int {j : Nat} {i : Int} : PE X (.Constant (.int i) j pos) (tE ca Φ E (.lit (.int i))) :=
  PE.imp pe_int fun σ H Q ⟨F, π, ρ, M, hr, hm, h⟩ => h _ F π H Post.refl hm (.p (.int i))
theorem l_str {j : Nat} {x : Str} : PE X (.Constant (.str x) j pos) (tE ca Φ E (.lit (.str x))) :=
  PE.imp pe_str fun σ H Q ⟨F, π, ρ, M, hr, hm, h⟩ => h _ F π H Post.refl hm (.p (.str x))
theorem l_glo (g : Good G ca X sc fc k Φ E) {x : Str} {d : D} (hg : glB sc x = true) (ho : okName x = true) (hc : G.consts.lookup x = some d) : PE X (.Name x pos) (tE ca Φ E (.glo x d)) := by
  obtain ⟨v, u, hm, r, rp⟩ := g.glob x d hc
  exact PE.imp (pe_glob (g.gl hg) hm r (okName_of ho).1) fun σ H Q ⟨F, π, ρ, M, hr, hm, h⟩ => h v F π H Post.refl hm (.p (rp F H))

/-! ### rows of expressions -/
theorem l_nil : PA X [] (tL ca Φ E .nil) := PA.imp pa_nil fun σ H Q ⟨F, π, ρ, M, hr, hm, h⟩ => h [] F π H Post.refl hm .nil
theorem l_cons {e : Expr} {es : List Expr} {c : CE} {cs : CEs} (hp : plainE e = true) (ha : PE X e (tE ca Φ E c)) (hb : PA X es (tL ca Φ E cs)) : PA X (e :: es) (tL ca Φ E (.cons c cs)) := by
  refine PA.imp (pa_cons ha hb (star_plain hp _ _)) fun σ H Q ⟨F, π, ρ, M, hr, hm, h⟩ => ?_
  simp only [evL] at h
  refine ⟨F, π, ρ, M, hr, hm, h.bind.imp fun x M1 h1 => ?_⟩
  intro v1 F1 π1 H1 p1 m1 r1
  refine ⟨F1, π1, ρ, M1, hr.mono p1, m1, (h1.move p1).bind.imp fun xs M2 h2 => ?_⟩
  intro vs F2 π2 H2 p2 m2 r2
  exact h2 (v1 :: vs) F2 π2 H2 (p1.trans p2) m2 (.cons (r1.mono p2) r2)
theorem rp_pures {F : Addr → Prop} {π : List Addr} {H : Hp} : ∀ {vs : List V} {us : List U} {ds : List D}, RpUs F π H vs us → pures us = some ds → RpDs F H vs ds
  | _, _, _, .nil, h => by cases h; exact .nil
  | _, u :: us, ds, .cons r t, h => by
    cases u with
    | p d =>
      simp only [pures] at h
      cases e : pures us with
      | none => rw [e] at h; cases h
      | some ds' =>
        rw [e] at h
        cases h
        cases r with
        | p r => exact .cons r (rp_pures t e)
    | _ => cases h
theorem rp_refs {F : Addr → Prop} {π : List Addr} {H : Hp} : ∀ {vs : List V} {us : List U} {ns : List Nat}, RpUs F π H vs us → refs us = some ns → NmR π vs ns
  | _, _, _, .nil, h => by cases h; exact .nil
  | _, u :: us, ns, .cons r t, h => by
    cases u with
    | ref n =>
      simp only [refs] at h
      cases e : refs us with
      | none => rw [e] at h; cases h
      | some ns' =>
        rw [e] at h
        cases h
        cases r with
        | ref r => exact .cons r (rp_refs t e)
    | _ => cases h
theorem l_tup {es : List Expr} {cs : CEs} {j : Nat} (h : PA X es (tL ca Φ E cs)) : PE X (.Tuple es j pos) (tE ca Φ E (.tup cs)) := by
  refine PE.imp (pe_tupF h) fun σ H Q ⟨F, π, ρ, M, hr, hm, h⟩ => ?_
  simp only [evE] at h
  refine ⟨F, π, ρ, M, hr, hm, h.bind.imp fun us M1 h1 => ?_⟩
  intro vs F1 π1 H1 p1 m1 r1
  split at h1
  · rename_i ds hd
    split at h1
    · rename_i hl
      have rd := rp_pures r1 hd
      refine ⟨by rw [rd.length]; exact hl, fun a o ha ho => ?_⟩
      have q : SQ F π H Q (.p (.tuple ds)) M1 := VQ.strong h1
      exact (q.move p1).tup m1 rd ha ho
    · exact False.elim h1
  · exact False.elim h1
theorem mkL_rp {F : Addr → Prop} {π : List Addr} {H : Hp} {vs : List V} {us : List U} {u : U} (r : RpUs F π H vs us) (h : mkL us = some u) : isLst u = true ∧ LstR F π H vs u := by
  unfold mkL at h
  split at h
  · rename_i ds hd
    cases h
    exact ⟨rfl, rp_pures r hd⟩
  · cases e : refs us with
    | none => rw [e] at h; cases h
    | some ns =>
      rw [e] at h
      cases h
      exact ⟨rfl, rp_refs r e⟩
theorem l_lst {es : List Expr} {cs : CEs} (h : PA X es (tL ca Φ E cs)) : PE X (.List es pos) (tS ca Φ E (.lst cs)) := by
  refine PE.imp (pe_lst h) fun σ H Q ⟨F, π, ρ, M, hr, hm, h⟩ => ?_
  simp only [evE] at h
  refine ⟨F, π, ρ, M, hr, hm, h.bind.imp fun us M1 h1 => ?_⟩
  intro vs F1 π1 H1 p1 m1 r1
  split at h1
  · rename_i hl
    obtain ⟨u, hu, q⟩ := h1.of
    obtain ⟨i1, i2⟩ := mkL_rp r1 hu
    exact ⟨by rw [r1.length]; exact hl, fun a ha => (q.move p1).lst m1 i1 i2 ha⟩
  · exact False.elim h1
theorem l_lstR {es : List Expr} {cs : CEs} (h : PA X es (tL ca Φ E cs)) : PE X (.List es pos) (tE ca Φ E (.lstR cs)) := by
  refine PE.imp (pe_lst h) fun σ H Q ⟨F, π, ρ, M, hr, hm, h⟩ => ?_
  simp only [evE] at h
  refine ⟨F, π, ρ, M, hr, hm, h.bind.imp fun us M1 h1 => ?_⟩
  intro vs F1 π1 H1 p1 m1 r1
  split at h1
  · rename_i ds hd
    split at h1
    · rename_i hl
      have rd := rp_pures r1 hd
      refine ⟨by rw [rd.length]; exact hl, fun a ha => ?_⟩
      have hf := m1.fresh ha
      have pl := Post.laid (F := F1) (π := π1) (o := .lst vs) ha
      refine h1 (.ref a) F1 (π1 ++ [a]) _ (p1.trans (pl.named (.of ha))) ((m1.laid ha).named hf.2 hf.1 (fun _ _ z => by cases z) ⟨vs, upd_same, rd.mono pl.le⟩) (.ref ?_)
      rw [← m1.len, List.getElem?_append_right (Nat.le_refl _), Nat.sub_self]
      rfl
    · exact False.elim h1
  · exact False.elim h1

/-! ### operators -/
theorem l_bin {a b : Expr} {ca' cb : CE} {o : BO} {op : Operator} (hop : boB o op = true) (ha : PE X a (tE ca Φ E ca')) (hb : PE X b (tE ca Φ E cb)) : PE X (.BinOp a op b pos) (tS ca Φ E (.bin o ca' cb)) := by
  refine PE.imp (pe_op (bo_ok hop) ha hb) fun σ H Q ⟨F, π, ρ, M, hr, hm, h⟩ => ?_
  simp only [evE] at h
  refine ⟨F, π, ρ, M, hr, hm, h.bind.imp fun x M1 h1 => ?_⟩
  intro v1 F1 π1 H1 p1 m1 r1
  refine ⟨F1, π1, ρ, M1, hr.mono p1, m1, (h1.move p1).bind.imp fun y M2 h2 => ?_⟩
  intro v2 F2 π2 H2 p2 m2 r2
  obtain ⟨u, hu, q⟩ := h2.of
  unfold lift op2 at hu
  cases e1 : val M2 x with
  | none => rw [e1] at hu; cases hu
  | some d =>
    cases e2 : val M2 y with
    | none => rw [e1, e2] at hu; cases hu
    | some e =>
      rw [e1, e2] at hu
      cases e3 : bop o d e with
      | none => simp only [e3] at hu; cases hu
      | some w =>
        simp only [e3] at hu
        cases hu
        exact ⟨F2, π2, M2, x, y, d, e, w, m2, r1.mono p2, r2, e1, e2, e3, q.move (p1.trans p2)⟩
theorem l_neg {a : Expr} {c : CE} (ha : PE X a (tE ca Φ E c)) : PE X (.UnaryOp .USub a pos) (tE ca Φ E (.neg c)) := by
  refine PE.imp (pe_un un_neg ha) fun σ H Q ⟨F, π, ρ, M, hr, hm, h⟩ => ?_
  simp only [evE] at h
  refine ⟨F, π, ρ, M, hr, hm, h.bind.imp fun x M1 h1 => ?_⟩
  intro v1 F1 π1 H1 p1 m1 r1
  split at h1
  · rename_i i
    cases r1 with
    | p r =>
      cases r
      exact ⟨i, rfl, h1 _ F1 π1 H1 p1 m1 (.p (.int _))⟩
  · exact False.elim h1
theorem co_data {F : Addr → Prop} {π : List Addr} {H : Hp} {M : Mem} {o : CO} {x y : U} {v w : V} {b : Bool} (m : MemR F π H M) (rx : RpU F π H v x) (ry : RpU F π H w y) (h : op2r M (cop o) x y = some b) :
    ∃ d e, Dp X.K H v d ∧ Dp X.K H w e ∧ cop o d e = some b := by
  unfold op2r at h
  cases e1 : rdv M x with
  | none => rw [e1] at h; cases h
  | some d =>
    cases e2 : rdv M y with
    | none => rw [e1, e2] at h; cases h
    | some e =>
      rw [e1, e2] at h
      exact ⟨d, e, rdv_dp m rx e1, rdv_dp m ry e2, h⟩
theorem liftB_some {o : Option Bool} {u : U} (h : liftB o = some u) : ∃ b, o = some b ∧ u = .p (.bool b) := by
  cases o with
  | none => cases h
  | some b => cases h; exact ⟨b, rfl, rfl⟩
theorem cmp_imp {c1 c2 : CE} {o : CO} {Z : (F : Addr → Prop) → (π : List Addr) → Hp → U → Mem → Prop} {Qb : Bool → Hp → Prop} {σ : St} {H : Hp} {F : Addr → Prop} {π : List Addr} {ρ : Env} {M : Mem} (hr : EnvR F π H ρ σ) (hm : MemR F π H M)
    (h : Out ca E F π H (evE Φ (.cmp o c1 c2) ρ M) (Z F π H)) (hz : ∀ b M', Z F π H (.p (.bool b)) M' → ∀ F' π' H', Post F π H F' π' H' → MemR F' π' H' M' → Qb b H') {Q : VK} (hq : ∀ b H', Qb b H' → Q (.bl b) H') :
    tOp (rCo (X := X) (cop o)) (tE ca Φ E c1) (tE ca Φ E c2) σ H Q := by
  simp only [evE] at h
  refine ⟨F, π, ρ, M, hr, hm, h.bind.imp fun x M1 h1 => ?_⟩
  intro v1 F1 π1 H1 p1 m1 r1
  refine ⟨F1, π1, ρ, M1, hr.mono p1, m1, (h1.move p1).bind.imp fun y M2 h2 => ?_⟩
  intro v2 F2 π2 H2 p2 m2 r2
  obtain ⟨u, hu, q⟩ := h2.of
  obtain ⟨b, hb, rfl⟩ := liftB_some hu
  obtain ⟨d, e, hd, he, hc⟩ := co_data (X := X) m2 (r1.mono p2) r2 hb
  exact ⟨d, e, b, hd, he, hc, hq b H2 (hz b M2 q F2 π2 H2 (p1.trans p2) m2)⟩
theorem l_cmp (g : Good G ca X sc fc k Φ E) {a b : Expr} {c1 c2 : CE} {o : CO} {op : CmpOp} (hop : coB o op = true) (hp : plainE b = true) (ha : PE X a (tE ca Φ E c1)) (hb : PE X b (tE ca Φ E c2)) : PE X (.Compare a [op] [b] pos) (tE ca Φ E (.cmp o c1 c2)) := by
  refine PE.imp (pe_cmpR (co_ok (by have := g.room.un; omega) hop) ha hb (in_plain hp op)) fun σ H Q ⟨F, π, ρ, M, hr, hm, h⟩ => ?_
  exact cmp_imp (X := X) (Z := fun F π H => VQ F π H Q) (Qb := fun b H' => Q (.bl b) H') hr hm h (fun b M' z F' π' H' p m => z (.bl b) F' π' H' p m (.p (.bl b))) fun b H' z => z
theorem l_cmpT (g : Good G ca X sc fc k Φ E) {a b : Expr} {c1 c2 : CE} {o : CO} {op : CmpOp} (hop : coB o op = true) (hp : plainE b = true) (ha : PE X a (tE ca Φ E c1)) (hb : PE X b (tE ca Φ E c2)) : PT X (.Compare a [op] [b] pos) (tT ca Φ E (.cmp o c1 c2)) := by
  refine PT.imp (pt_cmpR (co_ok (by have := g.room.un; omega) hop) ha hb (in_plain hp op)) fun σ H Q ⟨F, π, ρ, M, hr, hm, h⟩ => ?_
  refine cmp_imp (X := X) (Z := fun F π H => BQ F π H Q) (Qb := Q) hr hm h (fun b M' z F' π' H' p m => ?_) fun b H' z => ⟨b, rfl, z⟩
  obtain ⟨b', e, z⟩ := z
  cases e
  exact z F' π' H' p m
theorem l_nt {a : Expr} {c : CE} (ha : PE X a (tE ca Φ E c)) : PE X (.UnaryOp .Not a pos) (tE ca Φ E (.nt c)) := by
  refine PE.imp (pe_not ha) fun σ H Q ⟨F, π, ρ, M, hr, hm, h⟩ => ?_
  simp only [evE] at h
  refine ⟨F, π, ρ, M, hr, hm, h.bind.imp fun x M1 h1 => ?_⟩
  intro v1 F1 π1 H1 p1 m1 r1
  split at h1
  · rename_i b
    cases r1 with
    | p r =>
      cases r
      exact ⟨b, rfl, h1 _ F1 π1 H1 p1 m1 (.p (.bl _))⟩
  · exact False.elim h1
theorem l_ntT {a : Expr} {c : CE} (ha : PT X a (tT ca Φ E c)) : PT X (.UnaryOp .Not a pos) (tT ca Φ E (.nt c)) := by
  refine PT.imp (pt_not ha) fun σ H Q ⟨F, π, ρ, M, hr, hm, h⟩ => ?_
  simp only [evE] at h
  refine ⟨F, π, ρ, M, hr, hm, h.bind.imp fun x M1 h1 => ?_⟩
  split at h1
  · rename_i b
    obtain ⟨b', e, z⟩ := h1
    cases e
    exact ⟨b, rfl, z⟩
  · exact False.elim h1
theorem l_ite {t a b : Expr} {c c1 c2 : CE} (ht : PT X t (tT ca Φ E c)) (ha : PE X a (tE ca Φ E c1)) (hb : PE X b (tE ca Φ E c2)) : PE X (.IfExp t a b pos) (tE ca Φ E (.ite c c1 c2)) := by
  refine PE.imp (pe_ifExp ht ha hb) fun σ H Q ⟨F, π, ρ, M, hr, hm, h⟩ => ?_
  simp only [evE] at h
  refine ⟨F, π, ρ, M, hr, hm, h.bind.imp fun x M1 h1 => ?_⟩
  split at h1
  · refine ⟨true, rfl, fun F1 π1 H1 p1 m1 => ?_⟩
    refine iteT ?_
    exact ⟨F1, π1, ρ, M1, hr.mono p1, m1, (h1.move p1).imp fun u M2 z => z.move p1⟩
  · refine ⟨false, rfl, fun F1 π1 H1 p1 m1 => ?_⟩
    refine iteF ?_
    exact ⟨F1, π1, ρ, M1, hr.mono p1, m1, (h1.move p1).imp fun u M2 z => z.move p1⟩
  · exact False.elim h1
theorem l_ix {a i : Expr} {c1 c2 : CE} (hp : plainE i = true) (ha : PE X a (tE ca Φ E c1)) (hb : PE X i (tE ca Φ E c2)) : PE X (.Subscript a i pos) (tE ca Φ E (.ix c1 c2)) := by
  refine PE.imp (pe_ix ix_ok ha hb (ix_plain hp)) fun σ H Q ⟨F, π, ρ, M, hr, hm, h⟩ => ?_
  simp only [evE] at h
  refine ⟨F, π, ρ, M, hr, hm, h.bind.imp fun x M1 h1 => ?_⟩
  intro v1 F1 π1 H1 p1 m1 r1
  refine ⟨F1, π1, ρ, M1, hr.mono p1, m1, (h1.move p1).bind.imp fun y M2 h2 => ?_⟩
  intro v2 F2 π2 H2 p2 m2 r2
  obtain ⟨u, hu, q⟩ := h2.of
  exact ⟨F2, π2, M2, x, y, u, m2, r1.mono p2, r2, hu, fun v r => q v F2 π2 H2 (p1.trans p2) m2 r⟩
/-! ### and, or -/
theorem BQ.move {F F1 : Addr → Prop} {π π1 : List Addr} {H H1 : Hp} {Q : Bool → Hp → Prop} {u : U} {M : Mem} (p : Post F π H F1 π1 H1) (h : BQ F π H Q u M) : BQ F1 π1 H1 Q u M :=
  let ⟨b, e, z⟩ := h
  ⟨b, e, fun F' π' H' q m => z F' π' H' (p.trans q) m⟩
def booOp : Bool → BoolOp
  | true => .And
  | false => .Or
/-- one by one, as a value -/
theorem l_boo1 {kk : Bool} {a : Expr} {c : CE} (ha : PE X a (tE ca Φ E c)) : PE X (.BoolOp (booOp kk) [a] pos) (tBv ca Φ E kk (.cons c .nil)) := by
  refine PE.imp (pe_one ha) fun σ H Q ⟨F, π, ρ, M, hr, hm, h⟩ => ?_
  simp only [evB] at h
  refine ⟨F, π, ρ, M, hr, hm, h.bind.imp fun x M1 h1 => ?_⟩
  split at h1
  · rename_i b
    split at h1
    · rename_i e
      rw [e]
      exact h1
    · exact h1
  · exact False.elim h1
theorem l_boo2 {kk : Bool} {a b : Expr} {rest : List Expr} {c : CE} {cs : CEs} (ha : PE X a (tE ca Φ E c)) (hb : PE X (.BoolOp (booOp kk) (b :: rest) pos) (tBv ca Φ E kk cs)) : PE X (.BoolOp (booOp kk) (a :: b :: rest) pos) (tBv ca Φ E kk (.cons c cs)) := by
  have key : ∀ σ H Q, tBv ca Φ E kk (.cons c cs) σ H Q → tE ca Φ E c σ H (fun x H1 => ∃ d, x = .bl d ∧ if d = kk then tBv ca Φ E kk cs σ H1 Q else Q (.bl d) H1) := fun σ H Q ⟨F, π, ρ, M, hr, hm, h⟩ => by
    simp only [evB] at h
    refine ⟨F, π, ρ, M, hr, hm, h.bind.imp fun x M1 h1 => ?_⟩
    intro v1 F1 π1 H1 p1 m1 r1
    split at h1
    · rename_i d
      cases r1 with
      | p r =>
        cases r
        refine ⟨d, rfl, ?_⟩
        split at h1
        · rename_i e
          rw [if_pos e]
          exact ⟨F1, π1, ρ, M1, hr.mono p1, m1, (h1.move p1).imp fun u M2 z => z.move p1⟩
        · rename_i e
          rw [if_neg e]
          exact h1 (.bl d) F1 π1 H1 p1 m1 (.p (.bl d))
    · exact False.elim h1
  cases kk with
  | true =>
    refine PE.imp (pe_and ha hb) fun σ H Q h => ?_
    refine (key σ H Q h).elim fun F ⟨π, ρ, M, hr, hm, z⟩ => ⟨F, π, ρ, M, hr, hm, z.imp fun u M1 w v F1 π1 H1 p m r => ?_⟩
    obtain ⟨d, rfl, q⟩ := w v F1 π1 H1 p m r
    refine ⟨d, rfl, ?_⟩
    cases d with
    | true => exact q
    | false => exact q
  | false =>
    refine PE.imp (pe_or ha hb) fun σ H Q h => ?_
    refine (key σ H Q h).elim fun F ⟨π, ρ, M, hr, hm, z⟩ => ⟨F, π, ρ, M, hr, hm, z.imp fun u M1 w v F1 π1 H1 p m r => ?_⟩
    obtain ⟨d, rfl, q⟩ := w v F1 π1 H1 p m r
    refine ⟨d, rfl, ?_⟩
    cases d with
    | true => exact q
    | false => exact q
/-- .. as a test -/
theorem l_booT1 {kk : Bool} {a : Expr} {c : CE} (ha : PT X a (tT ca Φ E c)) : PW X (.BoolOp (booOp kk) [a] pos) (tBs ca Φ E kk (.cons c .nil)) := by
  have key : ∀ σ H Q, tBs ca Φ E kk (.cons c .nil) σ H Q → tT ca Φ E c σ H Q := fun σ H Q ⟨F, π, ρ, M, hr, hm, h⟩ => by
    simp only [evB] at h
    refine ⟨F, π, ρ, M, hr, hm, h.bind.imp fun x M1 h1 => ?_⟩
    split at h1
    · rename_i b
      split at h1
      · rename_i e
        rw [e]
        exact h1
      · exact h1
    · exact False.elim h1
  cases kk with
  | true => exact PW.imp (pw_and1 ha) key
  | false => exact PW.imp (pw_or1 ha) key
theorem l_booT2 {kk : Bool} {a b : Expr} {rest : List Expr} {c : CE} {cs : CEs} (ha : PT X a (tT ca Φ E c)) (hb : PW X (.BoolOp (booOp kk) (b :: rest) pos) (tBs ca Φ E kk cs)) : PW X (.BoolOp (booOp kk) (a :: b :: rest) pos) (tBs ca Φ E kk (.cons c cs)) := by
  have key : ∀ σ H Q, tBs ca Φ E kk (.cons c cs) σ H Q → tT ca Φ E c σ H (fun d H1 => if d = kk then tBs ca Φ E kk cs σ H1 Q else Q d H1) := fun σ H Q ⟨F, π, ρ, M, hr, hm, h⟩ => by
    simp only [evB] at h
    refine ⟨F, π, ρ, M, hr, hm, h.bind.imp fun x M1 h1 => ?_⟩
    split at h1
    · rename_i d
      refine ⟨d, rfl, fun F1 π1 H1 p1 m1 => ?_⟩
      split at h1
      · rename_i e
        show if d = kk then _ else _
        rw [if_pos e]
        exact ⟨F1, π1, ρ, M1, hr.mono p1, m1, (h1.move p1).imp fun u M2 z => z.move p1⟩
      · rename_i e
        show if d = kk then _ else _
        rw [if_neg e]
        obtain ⟨d', e', z⟩ := h1
        cases e'
        exact z F1 π1 H1 p1 m1
    · exact False.elim h1
  cases kk with
  | true =>
    refine PW.imp (pw_and ha hb) fun σ H Q h => ?_
    refine (key σ H Q h).elim fun F ⟨π, ρ, M, hr, hm, z⟩ => ⟨F, π, ρ, M, hr, hm, z.imp fun u M1 ⟨d, e, w⟩ => ⟨d, e, fun F1 π1 H1 p m => ?_⟩⟩
    have q := w F1 π1 H1 p m
    cases d with
    | true => exact q
    | false => exact q
  | false =>
    refine PW.imp (pw_or ha hb) fun σ H Q h => ?_
    refine (key σ H Q h).elim fun F ⟨π, ρ, M, hr, hm, z⟩ => ⟨F, π, ρ, M, hr, hm, z.imp fun u M1 ⟨d, e, w⟩ => ⟨d, e, fun F1 π1 H1 p m => ?_⟩⟩
    have q := w F1 π1 H1 p m
    cases d with
    | true => exact q
    | false => exact q
theorem chain_key {c1 c2 c3 : CE} {o p : CO} {σ : St} {H : Hp} {Q : VK} (h : tE ca Φ E (.chain o p c1 c2 c3) σ H Q) : tChain (rCo (X := X) (cop o)) (rCo (X := X) (cop p)) (tE ca Φ E c1) (tE ca Φ E c2) (tE ca Φ E c3) σ H Q := by
  obtain ⟨F, π, ρ, M, hr, hm, h⟩ := h
  simp only [evE] at h
  refine ⟨F, π, ρ, M, hr, hm, h.bind.imp fun x M1 h1 => ?_⟩
  intro v1 F1 π1 H1 p1 m1 r1
  refine ⟨F1, π1, ρ, M1, hr.mono p1, m1, (h1.move p1).bind.imp fun y M2 h2 => ?_⟩
  intro v2 F2 π2 H2 p2 m2 r2
  split at h2
  · rename_i hb
    obtain ⟨d, e, hd, he, hc⟩ := co_data (X := X) m2 (r1.mono p2) r2 hb
    refine ⟨d, e, true, hd, he, hc, true, rfl, iteT ?_⟩
    refine ⟨F2, π2, ρ, M2, hr.mono (p1.trans p2), m2, (h2.move p2).bind.imp fun z M3 h3 => ?_⟩
    intro v3 F3 π3 H3 p3 m3 r3
    obtain ⟨u, hu, q⟩ := h3.of
    obtain ⟨b, hb3, rfl⟩ := liftB_some hu
    obtain ⟨d', e', hd', he', hc'⟩ := co_data (X := X) m3 (r2.mono p3) r3 hb3
    exact ⟨d', e', b, hd', he', hc', q _ F3 π3 H3 ((p1.trans p2).trans p3) m3 (.p (.bl b))⟩
  · rename_i hb
    obtain ⟨d, e, hd, he, hc⟩ := co_data (X := X) m2 (r1.mono p2) r2 hb
    exact ⟨d, e, false, hd, he, hc, false, rfl, iteF (h2 _ F2 π2 H2 (p1.trans p2) m2 (.p (.bl false)))⟩
  · exact False.elim h2
theorem l_chain (g : Good G ca X sc fc k Φ E) {a b c : Expr} {c1 c2 c3 : CE} {o p : CO} {op op' : CmpOp} (hop : coB o op = true) (hop' : coB p op' = true) (hb' : plainE b = true) (hc' : plainE c = true) (ha : PE X a (tE ca Φ E c1)) (hb : PE X b (tE ca Φ E c2)) (hc : PE X c (tE ca Φ E c3)) :
    PE X (.Compare a [op, op'] [b, c] pos) (tE ca Φ E (.chain o p c1 c2 c3)) :=
  PE.imp (pe_chain (co_ok (by have := g.room.un; omega) hop) (co_ok (by have := g.room.un; omega) hop') ha hb hc (show lastMarks [op, op'] [b, c] = false from in_plain hc' op')) fun σ H Q h => chain_key h
theorem l_chainT (g : Good G ca X sc fc k Φ E) {a b c : Expr} {c1 c2 c3 : CE} {o p : CO} {op op' : CmpOp} (hop : coB o op = true) (hop' : coB p op' = true) (hb' : plainE b = true) (hc' : plainE c = true) (ha : PE X a (tE ca Φ E c1)) (hb : PE X b (tE ca Φ E c2)) (hc : PE X c (tE ca Φ E c3)) :
    PT X (.Compare a [op, op'] [b, c] pos) (tT ca Φ E (.chain o p c1 c2 c3)) := by
  refine PT.imp (pt_chain (co_ok (by have := g.room.un; omega) hop) (co_ok (by have := g.room.un; omega) hop') ha hb hc (show lastMarks [op, op'] [b, c] = false from in_plain hc' op')) fun σ H Q ⟨F, π, ρ, M, hr, hm, h⟩ => ?_
  refine chain_key (X := X) ⟨F, π, ρ, M, hr, hm, h.imp fun u M1 ⟨b, e, z⟩ => ?_⟩
  intro v F1 π1 H1 p m r
  subst e
  cases r with
  | p r =>
    cases r
    exact ⟨b, rfl, z F1 π1 H1 p m⟩
end
end VW
end
section
set_option maxHeartbeats 1000000
/-! Slices, calls, built-in functions. -/
namespace VW
open PySem PySem.Spec L2
theorem PO.imp {X : Cx} {e : Option Expr} {t t' : TO} (h : PO X e t) (i : ∀ σ H Q, t' σ H Q → t σ H Q) : PO X e t' := ⟨fun pins s σ H Q I q => h.run pins s σ H Q I (i σ H Q q)⟩
section
variable {G : St0} {ca : Str → Addr} {X : Cx} {sc : Scope} {fc : Str → Bool} {k : Nat} {Φ : Fn} {E : XK} {pos : Pos}
def tO (ca : Str → Addr) (Φ : Fn) (E : XK) (cs : CEs) : TO := fun σ H Q => ∃ F π ρ M, EnvR F π H ρ σ ∧ MemR F π H M ∧ Out ca E F π H (evL Φ cs ρ M) (fun us M' => ∃ o, (pures us).bind optI = some o ∧ ∀ F' π' H', Post F π H F' π' H' → MemR F' π' H' M' → Q o H')
theorem l_po0 : PO X none (tO ca Φ E .nil) := PO.imp po_none fun σ H Q ⟨F, π, ρ, M, hr, hm, h⟩ => by
  obtain ⟨o, e, z⟩ := h
  cases e
  exact z F π H Post.refl hm
theorem l_po1 {e : Expr} {c : CE} (ha : PE X e (tE ca Φ E c)) : PO X (some e) (tO ca Φ E (.cons c .nil)) := PO.imp (po_some ha) fun σ H Q ⟨F, π, ρ, M, hr, hm, h⟩ => by
  simp only [evL] at h
  refine ⟨F, π, ρ, M, hr, hm, h.bind.imp fun x M1 h1 => ?_⟩
  intro v1 F1 π1 H1 p1 m1 r1
  obtain ⟨o, e, z⟩ := h1
  cases x with
  | p d =>
    cases d with
    | int i =>
      cases e
      cases r1 with
      | p r =>
        cases r
        exact ⟨i, rfl, z F1 π1 H1 p1 m1⟩
    | _ => cases e
  | _ => cases e
theorem l_sl {e : Expr} {lo hi : Option Expr} {c : CE} {cl ch : CEs} {p2 : Pos} (he : PE X e (tE ca Φ E c)) (hl : PO X lo (tO ca Φ E cl)) (hh : PO X hi (tO ca Φ E ch)) : PE X (.Subscript e (.Slice lo hi none p2) pos) (tS ca Φ E (.sl c cl ch)) := by
  refine PE.imp (pe_slice sl_ok he hl hh) fun σ H Q ⟨F, π, ρ, M, hr, hm, h⟩ => ?_
  simp only [evE] at h
  refine ⟨F, π, ρ, M, hr, hm, h.bind.imp fun x M1 h1 => ?_⟩
  intro v1 F1 π1 H1 p1 m1 r1
  refine ⟨F1, π1, ρ, M1, hr.mono p1, m1, (h1.move p1).bind.imp fun l M2 h2 => ?_⟩
  split at h2
  · rename_i ol el
    refine ⟨ol, el, fun F2 π2 H2 p2 m2 => ?_⟩
    refine ⟨F2, π2, ρ, M2, hr.mono (p1.trans p2), m2, (h2.move p2).bind.imp fun hs M3 h3 => ?_⟩
    split at h3
    · rename_i oh eh
      refine ⟨oh, eh, fun F3 π3 H3 p3 m3 => ?_⟩
      split at h3
      · rename_i d hd
        obtain ⟨w, hw, q⟩ := h3.of
        cases e3 : slD d ol oh with
        | none => rw [e3] at hw; cases hw
        | some w' =>
          rw [e3] at hw
          cases hw
          exact ⟨F3, π3, M3, x, d, w', m3, (r1.mono p2).mono p3, hd, e3, q.move ((p1.trans p2).trans p3)⟩
      · exact False.elim h3
    · exact False.elim h3
  · exact False.elim h2
/-- a call of a def -/
theorem l_call (g : Good G ca X sc fc k Φ E) {f : Str} {ps : List Str} {e : Expr} {es : List Expr} {cs : CEs} {p : Pos} (hf : G.ar.lookup f = some ps) (hl : (e :: es).length = ps.length) (hg : glB sc f = true) (ho : okName f = true) (hp : (e :: es).all plainE = true)
    (ha : PA X (e :: es) (tL ca Φ E cs)) (hn : ∀ ρ M us M', evL Φ cs ρ M = .ok us M' → us.length = ps.length) : PE X (.Call (.Name f p) (e :: es) [] pos) (tE ca Φ E (.call f cs)) := by
  obtain ⟨fa, fd, hm, hk, hb, ok⟩ := g.fns f ps hf
  rw [List.all_cons, Bool.and_eq_true] at hp
  refine PE.imp (pe_call ok g.room (g.gl hg) hm hk hb .nil g.pass ha (okName_of ho).1 (star_plain hp.1 _ _) (nostar _ _ hp.2)) fun σ H Q ⟨F, π, ρ, M, hr, hm, h⟩ => ?_
  simp only [evE] at h
  refine ⟨F, π, ρ, M, hr, hm, ?_⟩
  cases ee : evL Φ cs ρ M with
  | ok us M1 =>
    rw [ee] at h
    intro vs F1 π1 H1 p1 m1 r1
    rw [List.append_nil]
    exact ⟨F1, π1, M1, us, m1, r1, hn ρ M us M1 ee, (Out.move p1 h).imp fun u M2 z => z.move p1⟩
  | exc c M1 => rw [ee] at h; exact h
  | bad => rw [ee] at h; exact h
theorem l_call0 (g : Good G ca X sc fc k Φ E) {f : Str} {p : Pos} (hf : G.ar.lookup f = some []) (hg : glB sc f = true) (ho : okName f = true) : PE X (.Call (.Name f p) [] [] pos) (tE ca Φ E (.call f .nil)) := by
  obtain ⟨fa, fd, hm, hk, hb, ok⟩ := g.fns f [] hf
  refine PE.imp (pe_call0 ok g.room (g.gl hg) hm hk hb .nil g.pass (okName_of ho).1) fun σ H Q ⟨F, π, ρ, M, hr, hm, h⟩ => ?_
  exact ⟨F, π, M, [], hm, .nil, rfl, h⟩
theorem evL_len {cs : CEs} : ∀ {ρ : Env} {M : Mem} {us : List U} {M' : Mem} {n : Nat}, (∀ ρ M us M', evL Φ cs ρ M = .ok us M' → us.length = n) → evL Φ cs ρ M = .ok us M' → us.length = n := fun h e => h _ _ _ _ e
def CEs.len : CEs → Nat
  | .nil => 0
  | .cons _ r => r.len + 1
theorem evL_length : ∀ (cs : CEs) (ρ : Env) (M : Mem) (us : List U) (M' : Mem), evL Φ cs ρ M = .ok us M' → us.length = cs.len
  | .nil, ρ, M, us, M', h => by
    simp only [evL] at h
    cases h
    rfl
  | .cons c cs, ρ, M, us, M', h => by
    simp only [evL] at h
    cases e1 : evE Φ c ρ M with
    | ok x M1 =>
      rw [e1] at h
      simp only [R.bind] at h
      cases e2 : evL Φ cs ρ M1 with
      | ok xs M2 =>
        rw [e2] at h
        cases h
        rw [List.length_cons, evL_length cs ρ M1 _ _ e2]
        rfl
      | exc c M2 => rw [e2] at h; cases h
      | bad => rw [e2] at h; cases h
    | exc c M1 => rw [e1] at h; cases h
    | bad => rw [e1] at h; cases h
end
end VW
end
section
set_option maxHeartbeats 1000000
/-! Built-in functions over what stands for data. -/
namespace VW
open PySem PySem.Spec L2
section
variable {X : Cx} {F : Addr → Prop} {π : List Addr} {H : Hp} {M : Mem}
def rPr (f : List D → Option D) : List V → Hp → VK → Prop := fun vs H Q => ∃ F π M us ds w, MemR F π H M ∧ RpUs F π H vs us ∧ vals M us = some ds ∧ f ds = some w ∧ SQ F π H Q (.p w) M
theorem vals_cons {u : U} {us : List U} {ds : List D} (h : vals M (u :: us) = some ds) : ∃ d r, rdv M u = some d ∧ vals M us = some r ∧ ds = d :: r := by
  simp only [vals] at h
  cases e1 : rdv M u with
  | none => rw [e1] at h; cases h
  | some d =>
    cases e2 : vals M us with
    | none => rw [e1, e2] at h; cases h
    | some r =>
      rw [e1, e2] at h
      cases h
      exact ⟨d, r, rfl, rfl, rfl⟩
theorem args1 {vs : List V} {us : List U} {d : D} (r : RpUs F π H vs us) (h : vals M us = some [d]) : ∃ v u, vs = [v] ∧ us = [u] ∧ RpU F π H v u ∧ rdv M u = some d := by
  cases r with
  | nil => cases h
  | cons r1 t =>
    obtain ⟨d', r', h1, h2, e⟩ := vals_cons h
    cases e
    cases t with
    | nil => exact ⟨_, _, rfl, rfl, r1, h1⟩
    | cons r2 t =>
      obtain ⟨_, _, _, _, e⟩ := vals_cons h2
      cases e
theorem args2 {vs : List V} {us : List U} {d e : D} (r : RpUs F π H vs us) (h : vals M us = some [d, e]) : ∃ v w u x, vs = [v, w] ∧ us = [u, x] ∧ RpU F π H v u ∧ rdv M u = some d ∧ RpU F π H w x ∧ rdv M x = some e := by
  cases r with
  | nil => cases h
  | cons r1 t =>
    obtain ⟨d', r', h1, h2, e⟩ := vals_cons h
    cases e
    obtain ⟨w, x, rfl, rfl, r2, h3⟩ := args1 t h2
    exact ⟨_, w, _, x, rfl, rfl, r1, h1, r2, h3⟩
theorem call_imp {f : Value} {r r' : List V → Hp → VK → Prop} (h : CallR X f r) (i : ∀ vs H Q, r' vs H Q → r vs H Q) : CallR X f r' := fun pins s σ H vs us Q I rv q => h pins s σ H vs us Q I rv (i vs H Q q)
theorem dp_ints {K : PySem.W.Frag} : ∀ {vs : List V} {ds : List D} {ns : List Int}, DpAll K H vs ds → intsD ds = some ns → vs = ns.map V.int
  | _, [], ns, h, e => by cases h; cases e; rfl
  | _, d :: ds, ns, .cons h t, e => by
    cases d with
    | int i =>
      simp only [intsD] at e
      cases q : intsD ds with
      | none => rw [q] at e; cases e
      | some ms =>
        rw [q] at e
        cases e
        cases h
        rw [dp_ints t q]
        rfl
    | _ => cases e
theorem dp_bools {K : PySem.W.Frag} : ∀ {vs : List V} {ds : List D} {ns : List Bool}, DpAll K H vs ds → boolsD ds = some ns → vs = ns.map V.bl
  | _, [], ns, h, e => by cases h; cases e; rfl
  | _, d :: ds, ns, .cons h t, e => by
    cases d with
    | bool i =>
      simp only [boolsD] at e
      cases q : boolsD ds with
      | none => rw [q] at e; cases e
      | some ms =>
        rw [q] at e
        cases e
        cases h
        rw [dp_bools t q]
        rfl
    | _ => cases e
theorem dp_strs {K : PySem.W.Frag} : ∀ {vs : List V} {ds : List D} {ns : List Str}, DpAll K H vs ds → strsD ds = some ns → vs = ns.map V.str
  | _, [], ns, h, e => by cases h; cases e; rfl
  | _, d :: ds, ns, .cons h t, e => by
    cases d with
    | str i =>
      simp only [strsD] at e
      cases q : strsD ds with
      | none => rw [q] at e; cases e
      | some ms =>
        rw [q] at e
        cases e
        cases h
        rw [dp_strs t q]
        rfl
    | _ => cases e
theorem rp_ints : ∀ (ns : List Int), RpDs F H (ns.map V.int) (ns.map PyData.int)
  | [] => .nil
  | n :: ns => .cons (.int n) (rp_ints ns)
theorem pr_len : CallR X (.builtin "len") (rPr (prim .len)) := call_imp call_len fun vs H Q ⟨F, π, M, us, ds, w, m, r, hv, hw, q⟩ => by
  match ds, hw with
  | [d], hw =>
    obtain ⟨v, u, rfl, rfl, ru, hd⟩ := args1 r hv
    have dp := rdv_dp (K := X.K) m ru hd
    cases d with
    | str z =>
      simp only [prim, lenD] at hw
      split at hw
      · rename_i hz
        cases hw
        cases dp
        exact ⟨_, _, rfl, ⟨hz, rfl⟩, q.same m rfl (.p (.int _))⟩
      · cases hw
    | tuple xs =>
      cases hw
      cases dp with
      | tup h hz =>
        refine ⟨_, xs.length, rfl, .inr ⟨_, h, (dpall_len hz).symm⟩, q.same m rfl (.p (.int _))⟩
    | list xs =>
      cases hw
      cases dp with
      | lst h hz =>
        refine ⟨_, xs.length, rfl, .inl ⟨_, h, (dpall_len hz).symm⟩, q.same m rfl (.p (.int _))⟩
    | _ => cases hw
theorem pr_abs : CallR X (.builtin "abs") (rPr (prim .abs)) := call_imp call_abs fun vs H Q ⟨F, π, M, us, ds, w, m, r, hv, hw, q⟩ => by
  match ds, hw with
  | [.int i], hw =>
    obtain ⟨v, u, rfl, rfl, ru, hd⟩ := args1 r hv
    cases hw
    cases rdv_dp (K := X.K) m ru hd
    exact ⟨i, rfl, q.same m rfl (.p (.int _))⟩
theorem pr_int : CallR X (.type "int") (rPr (prim .int)) := call_imp call_int1 fun vs H Q ⟨F, π, M, us, ds, w, m, r, hv, hw, q⟩ => by
  match ds, hw with
  | [.int i], hw =>
    obtain ⟨v, u, rfl, rfl, ru, hd⟩ := args1 r hv
    cases hw
    cases rdv_dp (K := X.K) m ru hd
    exact .inl ⟨i, rfl, q.same m rfl (.p (.int _))⟩
  | [.bool i], hw =>
    obtain ⟨v, u, rfl, rfl, ru, hd⟩ := args1 r hv
    cases hw
    cases rdv_dp (K := X.K) m ru hd
    exact .inr ⟨i, rfl, q.same m rfl (.p (.int _))⟩
theorem pr_sum (hc : X.calm = true) : CallR X (.builtin "sum") (rPr (prim .sum)) := call_imp (cr_sum hc) fun vs H Q ⟨F, π, M, us, ds, w, m, r, hv, hw, q⟩ => by
  match ds, hw with
  | [.list xs], hw =>
    obtain ⟨v, u, rfl, rfl, ru, hd⟩ := args1 r hv
    simp only [prim] at hw
    cases e : intsD xs with
    | none => rw [e] at hw; cases hw
    | some ns =>
      rw [e] at hw
      cases hw
      cases rdv_dp (K := X.K) m ru hd with
      | lst h hz =>
        rw [dp_ints hz e] at h
        exact ⟨_, ns, rfl, h, q.same m rfl (.p (.int _))⟩
theorem pr_all (hc : X.calm = true) : CallR X (.builtin "all") (rPr (prim .all)) := call_imp (cr_all hc) fun vs H Q ⟨F, π, M, us, ds, w, m, r, hv, hw, q⟩ => by
  match ds, hw with
  | [.list xs], hw =>
    obtain ⟨v, u, rfl, rfl, ru, hd⟩ := args1 r hv
    simp only [prim] at hw
    cases e : boolsD xs with
    | none => rw [e] at hw; cases hw
    | some ns =>
      rw [e] at hw
      cases hw
      cases rdv_dp (K := X.K) m ru hd with
      | lst h hz =>
        rw [dp_bools hz e] at h
        exact ⟨_, ns, rfl, h, q.same m rfl (.p (.bl _))⟩
theorem pr_any (hc : X.calm = true) : CallR X (.builtin "any") (rPr (prim .any)) := call_imp (cr_any hc) fun vs H Q ⟨F, π, M, us, ds, w, m, r, hv, hw, q⟩ => by
  match ds, hw with
  | [.list xs], hw =>
    obtain ⟨v, u, rfl, rfl, ru, hd⟩ := args1 r hv
    simp only [prim] at hw
    cases e : boolsD xs with
    | none => rw [e] at hw; cases hw
    | some ns =>
      rw [e] at hw
      cases hw
      cases rdv_dp (K := X.K) m ru hd with
      | lst h hz =>
        rw [dp_bools hz e] at h
        exact ⟨_, ns, rfl, h, q.same m rfl (.p (.bl _))⟩
theorem rdv_lst {K : PySem.W.Frag} (m : MemR F π H M) {v : V} {u : U} {ds : List D} (r : RpU F π H v u) (h : rdv M u = some (.list ds)) : ∃ a vs, v = .ref a ∧ SqL K H a vs ∧ RpDs F H vs ds := by
  cases u with
  | scr es =>
    cases h
    cases r with
    | scr e q => exact ⟨_, _, rfl, scr_sq e, q⟩
  | rl ns => cases h
  | p d =>
    obtain ⟨a, vs, rfl, e, q⟩ := val_lst m r h
    exact ⟨a, vs, rfl, .inl (.inl e), q⟩
  | ref n =>
    obtain ⟨a, vs, rfl, e, q⟩ := val_lst m r h
    exact ⟨a, vs, rfl, .inl (.inl e), q⟩
theorem pr_tuple : CallR X (.type "tuple") (rPr (prim .tuple)) := call_imp call_tupleF fun vs H Q ⟨F, π, M, us, ds, w, m, r, hv, hw, q⟩ => by
  match ds, hw with
  | [d], hw =>
    obtain ⟨v, u, rfl, rfl, ru, hd⟩ := args1 r hv
    simp only [prim] at hw
    cases e : seqD d with
    | none => rw [e] at hw; cases hw
    | some xs =>
      rw [e] at hw
      cases hw
      obtain ⟨a, vs, rfl, h, rs⟩ := rdv_seq (K := X.K) m ru hd e
      cases d with
      | tuple ys =>
        cases e
        cases u with
        | scr _ => cases hd
        | rl _ => cases hd
        | p d =>
          obtain ⟨a', o, vs', ea, ha, da, ra⟩ := val_tup m ru hd
          cases ea
          exact ⟨a, vs', rfl, .inr ⟨.inl (.inr ⟨_, ha⟩), q.same m rfl (.p (.tup ha da ra))⟩⟩
        | ref n =>
          obtain ⟨a', o, vs', ea, ha, da, ra⟩ := val_tup m ru hd
          cases ea
          exact ⟨a, vs', rfl, .inr ⟨.inl (.inr ⟨_, ha⟩), q.same m rfl (.p (.tup ha da ra))⟩⟩
      | list ys =>
        cases e
        obtain ⟨a', vs', ea, h', rs'⟩ := rdv_lst (K := X.K) m ru hd
        cases ea
        exact ⟨a, vs', rfl, .inl ⟨h', fun p o hp ho => q.tup m rs' hp ho⟩⟩
      | _ => cases e
theorem pr_list : CallR X (.type "list") (rPr (prim .list)) := call_imp call_list_of fun vs H Q ⟨F, π, M, us, ds, w, m, r, hv, hw, q⟩ => by
  match ds, hw with
  | [d], hw =>
    obtain ⟨v, u, rfl, rfl, ru, hd⟩ := args1 r hv
    simp only [prim] at hw
    cases e : seqD d with
    | none => rw [e] at hw; cases hw
    | some xs =>
      rw [e] at hw
      cases hw
      obtain ⟨a, vs, rfl, h, rs⟩ := rdv_seq (K := X.K) m ru hd e
      exact ⟨a, vs, rfl, h, fun l hl => q.lst m rfl (show LstR F π H _ _ from rs) hl⟩
end
end VW
end
section
set_option maxHeartbeats 1000000
/-! More built-in functions over what stands for data: max, min, sorted, set. -/
namespace VW
open PySem PySem.Spec L2
/-! ### plain facts -/
theorem foldl_max_ge : ∀ (xs : List Int) (x : Int), x ≤ xs.foldl max x ∧ ∀ y ∈ xs, y ≤ xs.foldl max x
  | [], x => ⟨Int.le_refl _, fun y h => by cases h⟩
  | z :: xs, x => by
    obtain ⟨h1, h2⟩ := foldl_max_ge xs (max x z)
    refine ⟨Int.le_trans (Int.le_max_left x z) h1, fun y h => ?_⟩
    rcases List.mem_cons.mp h with e | e
    · subst e; exact Int.le_trans (Int.le_max_right x y) h1
    · exact h2 y e
theorem foldl_max_mem : ∀ (xs : List Int) (x : Int), xs.foldl max x = x ∨ xs.foldl max x ∈ xs
  | [], x => .inl rfl
  | z :: xs, x => by
    rcases foldl_max_mem xs (max x z) with e | e
    · by_cases h : x ≤ z
      · right
        rw [List.foldl_cons, e, Int.max_eq_right h]
        exact List.mem_cons_self
      · left
        rw [List.foldl_cons, e, Int.max_eq_left (by omega)]
    · right
      rw [List.foldl_cons]
      exact List.mem_cons_of_mem _ e
theorem maxI_is {ns : List Int} {m k : Int} (h : maxI ns = some k) (hm : m ∈ ns) (hg : ∀ y ∈ ns, y ≤ m) : m = k := by
  cases ns with
  | nil => cases h
  | cons x xs =>
    cases h
    obtain ⟨h1, h2⟩ := foldl_max_ge xs x
    have hmk : m ≤ xs.foldl max x := by
      rcases List.mem_cons.mp hm with e | e
      · rw [e]; exact h1
      · exact h2 m e
    have hkm : xs.foldl max x ≤ m := by
      rcases foldl_max_mem xs x with e | e
      · rw [e]; exact hg x List.mem_cons_self
      · exact hg _ (List.mem_cons_of_mem _ e)
    omega
theorem foldl_min_le : ∀ (xs : List Int) (x : Int), xs.foldl min x ≤ x ∧ ∀ y ∈ xs, xs.foldl min x ≤ y
  | [], x => ⟨Int.le_refl _, fun y h => by cases h⟩
  | z :: xs, x => by
    obtain ⟨h1, h2⟩ := foldl_min_le xs (min x z)
    refine ⟨Int.le_trans h1 (Int.min_le_left x z), fun y h => ?_⟩
    rcases List.mem_cons.mp h with e | e
    · subst e; exact Int.le_trans h1 (Int.min_le_right x y)
    · exact h2 y e
theorem foldl_min_mem : ∀ (xs : List Int) (x : Int), xs.foldl min x = x ∨ xs.foldl min x ∈ xs
  | [], x => .inl rfl
  | z :: xs, x => by
    rcases foldl_min_mem xs (min x z) with e | e
    · by_cases h : x ≤ z
      · left
        rw [List.foldl_cons, e, Int.min_eq_left h]
      · right
        rw [List.foldl_cons, e, Int.min_eq_right (by omega)]
        exact List.mem_cons_self
    · right
      rw [List.foldl_cons]
      exact List.mem_cons_of_mem _ e
theorem minI_is {ns : List Int} {m k : Int} (h : minI ns = some k) (hm : m ∈ ns) (hg : ∀ y ∈ ns, m ≤ y) : m = k := by
  cases ns with
  | nil => cases h
  | cons x xs =>
    cases h
    obtain ⟨h1, h2⟩ := foldl_min_le xs x
    have hmk : xs.foldl min x ≤ m := by
      rcases List.mem_cons.mp hm with e | e
      · rw [e]; exact h1
      · exact h2 m e
    have hkm : m ≤ xs.foldl min x := by
      rcases foldl_min_mem xs x with e | e
      · rw [e]; exact hg x List.mem_cons_self
      · exact hg _ (List.mem_cons_of_mem _ e)
    omega
theorem insI_perm (x : Int) : ∀ ys : List Int, (insI x ys).Perm (x :: ys)
  | [] => .refl _
  | y :: ys => by
    unfold insI
    split
    · exact .refl _
    · exact ((insI_perm x ys).cons y).trans (.swap x y ys)
theorem sortI_perm : ∀ xs : List Int, (sortI xs).Perm xs
  | [] => .refl _
  | x :: xs => (insI_perm x (sortI xs)).trans ((sortI_perm xs).cons x)
theorem insI_sorted (x : Int) : ∀ ys : List Int, ys.Pairwise (· ≤ ·) → (insI x ys).Pairwise (· ≤ ·)
  | [], _ => by simp [insI]
  | y :: ys, h => by
    obtain ⟨h1, h2⟩ := List.pairwise_cons.mp h
    unfold insI
    split
    · rename_i hxy
      refine List.pairwise_cons.mpr ⟨fun z hz => ?_, h⟩
      rcases List.mem_cons.mp hz with e | e
      · rw [e]; exact hxy
      · exact Int.le_trans hxy (h1 z e)
    · rename_i hxy
      refine List.pairwise_cons.mpr ⟨fun z hz => ?_, insI_sorted x ys h2⟩
      rcases List.mem_cons.mp ((insI_perm x ys).mem_iff.mp hz) with e | e
      · rw [e]; omega
      · exact h1 z e
theorem sortI_sorted : ∀ xs : List Int, (sortI xs).Pairwise (· ≤ ·)
  | [] => List.Pairwise.nil
  | x :: xs => insI_sorted x _ (sortI_sorted xs)
theorem sorted_unique : ∀ {xs ys : List Int}, xs.Perm ys → xs.Pairwise (· ≤ ·) → ys.Pairwise (· ≤ ·) → xs = ys
  | [], ys, p, _, _ => by rw [p.nil_eq]
  | x :: xs, [], p, _, _ => by cases p.symm.nil_eq
  | x :: xs, y :: ys, p, hx, hy => by
    obtain ⟨x1, x2⟩ := List.pairwise_cons.mp hx
    obtain ⟨y1, y2⟩ := List.pairwise_cons.mp hy
    have e : x = y := by
      have a : x ≤ y := by
        rcases List.mem_cons.mp (p.mem_iff.mpr List.mem_cons_self : y ∈ x :: xs) with e | e
        · omega
        · exact x1 y e
      have b : y ≤ x := by
        rcases List.mem_cons.mp (p.mem_iff.mp List.mem_cons_self : x ∈ y :: ys) with e | e
        · omega
        · exact y1 x e
      omega
    subst e
    rw [sorted_unique (p.cons_inv) x2 y2]
theorem sortI_is {ns ms : List Int} (p : ms.Perm ns) (h : ms.Pairwise (· ≤ ·)) : ms = sortI ns := sorted_unique (p.trans (sortI_perm ns).symm) h (sortI_sorted ns)
theorem dedI_mem : ∀ {xs : List Int} {k : Int}, k ∈ dedI xs ↔ k ∈ xs
  | [], k => .rfl
  | x :: xs, k => by
    unfold dedI
    split
    · rename_i h
      rw [dedI_mem, List.mem_cons]
      exact ⟨.inr, fun z => z.elim (fun e => by rw [e]; exact h) id⟩
    · rw [List.mem_cons, List.mem_cons, dedI_mem]
theorem dedI_nodup : ∀ xs : List Int, (dedI xs).Nodup
  | [] => List.nodup_nil
  | x :: xs => by
    unfold dedI
    split
    · exact dedI_nodup xs
    · rename_i h
      exact List.nodup_cons.mpr ⟨fun z => h (dedI_mem.mp z), dedI_nodup xs⟩
theorem lt_unique : ∀ {xs ys : List Int}, (∀ k, k ∈ xs ↔ k ∈ ys) → xs.Pairwise (· < ·) → ys.Pairwise (· < ·) → xs = ys
  | [], [], _, _, _ => rfl
  | [], y :: ys, p, _, _ => by cases (p y).mpr List.mem_cons_self
  | x :: xs, [], p, _, _ => by cases (p x).mp List.mem_cons_self
  | x :: xs, y :: ys, p, hx, hy => by
    obtain ⟨x1, x2⟩ := List.pairwise_cons.mp hx
    obtain ⟨y1, y2⟩ := List.pairwise_cons.mp hy
    have e : x = y := by
      rcases List.mem_cons.mp ((p x).mp List.mem_cons_self) with e | e
      · exact e
      · rcases List.mem_cons.mp ((p y).mpr List.mem_cons_self) with e' | e'
        · exact e'.symm
        · have a := y1 x e
          have b := x1 y e'
          omega
    subst e
    rw [lt_unique (fun k => ?_) x2 y2]
    constructor
    · intro h
      have a := x1 k h
      rcases List.mem_cons.mp ((p k).mp (List.mem_cons_of_mem _ h)) with e | e
      · omega
      · exact e
    · intro h
      have a := y1 k h
      rcases List.mem_cons.mp ((p k).mpr (List.mem_cons_of_mem _ h)) with e | e
      · omega
      · exact e
theorem sortDed_is {ns ms : List Int} (p : ∀ k, k ∈ ms ↔ k ∈ ns) (h : ms.Pairwise (· < ·)) : ms = sortI (dedI ns) := by
  refine lt_unique (fun k => ?_) h (L2.lt_of_le_nodup _ (sortI_sorted _) ((sortI_perm _).nodup_iff.mpr (dedI_nodup ns)))
  rw [p k, (sortI_perm _).mem_iff, dedI_mem]
theorem getD_of {ns : List Int} {y : Int} (h : y ∈ ns) : ∃ j, j < ns.length ∧ ns.getD j 0 = y := by
  obtain ⟨j, hj, e⟩ := List.mem_iff_getElem.mp h
  exact ⟨j, hj, by simp [List.getD_eq_getElem?_getD, List.getElem?_eq_getElem hj, e]⟩
/-! ### tuples of ints -/
section
variable {prog : Program} {w : World} {A : Around} {E : Value → Shared → Prop} {s : Shared}
theorem old_of {t : Addr} {h' : Heap} (hk : ∀ b o, b ∉ [s.heap.objs.size] → (s.heap.push { cls := .type "tuple_iterator", data := .fields #[.ref t, .int 0 0] }).get? b = some o → h'.get? b = some o) : ∀ b o, s.heap.get? b = some o → h'.get? b = some o := fun b o e =>
  hk b o (fun z => Nat.lt_irrefl _ (by have := Heap.lt_size e; rw [List.mem_singleton.mp z] at this; exact this)) (Heap.get?_push_of_some _ e)
theorem tup_walk {t : Addr} {its : List Value} {ns : List Int} {Q : Value → Shared → Prop} (hh : A.handled = none) (ht : s.heap.IsTuple t its.toArray) (hi : PyProof.Rows.IntsAre its ns)
    (h : ∀ s₂ : Shared, s₂ = { s with heap := s.heap.push { cls := .type "tuple_iterator", data := .fields #[.ref t, .int 0 0] } } →
      Walks prog w A s.heap.objs.size [s.heap.objs.size, t] [s.heap.objs.size] its.toArray.size (fun i v => its.toArray[i]? = some v) (fun i h => h.IsTupleIter s.heap.objs.size t i ∧ h.IsTuple t its.toArray) →
      (s₂.heap.IsTupleIter s.heap.objs.size t 0 ∧ s₂.heap.IsTuple t its.toArray) → (∀ b ∈ [s.heap.objs.size, t], b < s₂.heap.objs.size) → (∀ (i : Nat) v, its.toArray[i]? = some v → ∃ tk, v = .int (ns.getD i 0) tk) → Q (.ref s.heap.objs.size) s₂) :
    wpAny (model prog w) A (pyIter (.ref t)) Q E s := by
  have lt : t < s.heap.objs.size := by obtain ⟨o, ho, _⟩ := ht; exact Heap.lt_size ho
  refine wpAny_pyIter_tuple ht (h _ rfl (Walks.tuple hh _ t (Nat.ne_of_lt lt) _) ⟨⟨_, Heap.get?_push_size _ rfl, rfl, rfl⟩, ht.at fun o e => Heap.get?_push_of_some _ e⟩ (fun b hb => ?_) fun i v hv => ?_)
  · rw [Heap.size_push]
    rcases List.mem_cons.mp hb with z | z
    · rw [z]; exact Nat.lt_succ_self _
    · rw [List.mem_singleton.mp z]; exact Nat.lt_succ_of_lt lt
  · have hv : its[i]? = some v := by simpa using hv
    have hlen := hi.length
    have hi' : i < ns.length := by rw [← hlen]; exact (List.getElem?_eq_some_iff.mp hv).1
    obtain ⟨tk, e⟩ := hi.get i ns[i] (List.getElem?_eq_getElem hi')
    rw [hv] at e
    cases e
    exact ⟨tk, by simp [List.getD_eq_getElem?_getD, List.getElem?_eq_getElem hi']⟩
theorem max_tup {t : Addr} {its : List Value} {ns : List Int} {Q : Value → Shared → Prop} (hh : A.handled = none) (ht : s.heap.IsTuple t its.toArray) (hi : PyProof.Rows.IntsAre its ns) (hn : 0 < ns.length)
    (h : ∀ h' tk m t', (∀ b o, s.heap.get? b = some o → h'.get? b = some o) → m ∈ ns → (∀ y ∈ ns, y ≤ m) → Q (.int m t') { s with heap := h', toks := tk }) : wpAny (model prog w) A (call (.builtin "max") [.ref t]) Q E s := by
  have hlen : its.toArray.size = ns.length := by have := hi.length; simpa using this
  refine call_max_walk (tup_walk (A := A.in1) hh ht hi fun s₂ e W st fp hv => ?_)
  subst e
  refine ⟨_, _, _, _, _, _, _, rfl, W, st, fp, by omega, CmpOf.ints_gt (fun i => ns.getD i 0) hv, fun v h' tk hP hk => ?_⟩
  obtain ⟨t', rfl⟩ := hv _ _ hP
  obtain ⟨h1, h2⟩ := argBest_gt (fun i => ns.getD i 0) (its.toArray.size - 1)
  refine h h' tk _ t' (old_of hk) ?_ fun y hy => ?_
  · exact PySem.getD_mem (by omega)
  · obtain ⟨j, hj, rfl⟩ := getD_of hy
    exact h2 j (by omega)
theorem min_tup {t : Addr} {its : List Value} {ns : List Int} {Q : Value → Shared → Prop} (hh : A.handled = none) (ht : s.heap.IsTuple t its.toArray) (hi : PyProof.Rows.IntsAre its ns) (hn : 0 < ns.length)
    (h : ∀ h' tk m t', (∀ b o, s.heap.get? b = some o → h'.get? b = some o) → m ∈ ns → (∀ y ∈ ns, m ≤ y) → Q (.int m t') { s with heap := h', toks := tk }) : wpAny (model prog w) A (call (.builtin "min") [.ref t]) Q E s := by
  have hlen : its.toArray.size = ns.length := by have := hi.length; simpa using this
  refine call_min_walk (tup_walk (A := A.in1) hh ht hi fun s₂ e W st fp hv => ?_)
  subst e
  refine ⟨_, _, _, _, _, _, _, rfl, W, st, fp, by omega, CmpOf.ints_lt (fun i => ns.getD i 0) hv, fun v h' tk hP hk => ?_⟩
  obtain ⟨t', rfl⟩ := hv _ _ hP
  obtain ⟨h1, h2⟩ := argBest_lt (fun i => ns.getD i 0) (its.toArray.size - 1)
  refine h h' tk _ t' (old_of hk) ?_ fun y hy => ?_
  · exact PySem.getD_mem (by omega)
  · obtain ⟨j, hj, rfl⟩ := getD_of hy
    exact h2 j (by omega)
end
/-! ### sorted of a tuple of ints -/
section
variable {prog : Program} {w : World} {A : Around} {E : Value → Shared → Prop} {s : Shared}
open PyProof.Rows in
theorem sorted_tup {t : Addr} {its : List Value} {ns : List Int} {Q : Value → Shared → Prop} (ht : s.heap.IsTuple t its.toArray) (hI : IntsAre its ns) (h64 : its.length < 64)
    (h : ∀ (h1 h' : Heap) (p : Addr) (out : Array Value) (c : Nat) (ns' : List Int), (∀ b o, s.heap.get? b = some o → h1.get? b = some o) → (∀ b o, h1.get? b = some o → h'.get? b = some o) → h1.objs.size ≤ p → h'.get? p = some (seqObj "list" out c) → IntsAre out.toList ns' → ns'.Perm ns → ns'.Pairwise (· ≤ ·) → Q (.ref p) { s with heap := h' }) :
    wpAny (model prog w) A (call (.builtin "sorted") [.ref t]) Q E s := by
  obtain ⟨ot, hot, hct, nt, hdt⟩ := ht
  refine Calls.call_function_entry kind_sorted plain_sorted entry_sorted (args_sorted1 _) ?_
  unfold Builtin.«sorted»
  refine wpAny_bind (m := checkCount "sorted" 1 1 _) (wpAny_pure ?_)
  refine wpAny_bind (wpAny_collect_seq t (.inr rfl) hot hct hdt (fun h1 k1 => ?_) (by rw [List.size_toArray, sizeLine_eq]; omega))
  have hl : its.length ≤ sizeLine := by rw [sizeLine_eq]; omega
  refine wpAny_bind (wpAny_newList ?_ (by simpa using hl))
  have hoL : (h1.push (seqObj "list" its.toArray 0)).get? h1.objs.size = some (seqObj "list" its.toArray 0) := Heap.get?_push_size _ rfl
  have e0 : its.toArray.toList = its := by simp
  rw [e0]
  refine wpAny_bind (wpAny_holding (wpAny_call_entry slot_list_sort ⟨_, hoL, rfl⟩ entry_list_sort (list_sort_tree hoL hI h64 fun out ns' a1 a2 a3 => ⟨_, rfl, ?_⟩) (args_list_sort _)))
  obtain ⟨c, hc⟩ := sortedHeap_at (vs := its) (out := out) hoL
  refine wpAny_pure ⟨_, rfl, h h1 _ h1.objs.size out c ns' k1 (fun b o q => ?_) (Nat.le_refl _) hc a1 a2 a3⟩
  have hlt := Heap.lt_size q
  show (sortedHeap (h1.push (seqObj "list" its.toArray 0)) h1.objs.size its out).get? b = some o
  rw [sortedHeap_old (Nat.ne_of_lt hlt) (by rw [size_push']; exact Nat.lt_succ_of_lt hlt)]
  exact Heap.get?_push_of_some _ q
end
section
variable {X : Cx}
theorem cr_sortedT : CallR X (.builtin "sorted") (fun vs H Q => ∃ (a : Addr) (ns : List Int), vs = [V.ref a] ∧ SqT X.K H a (ns.map V.int) ∧ ns.length < 64 ∧ ∀ p, H p = none → Q (.ref p) (upd H p (.lst ((sortI ns).map V.int)))) := by
  intro pins s σ H vs us Q I r h
  obtain ⟨a, ns, rfl, hs, h64, q⟩ := h
  obtain ⟨its, rv, tp, hz⟩ := I.tuple hs
  rw [Vals.ref1 r]
  have hi := rv.ints
  refine sorted_tup tp hi (by rw [hi.length]; exact h64) fun h1 h' p out c ns' k1 k2 hp hg h2 h3 h4 => ?_
  have I1 : Inv X pins σ H { s with heap := h1 } := I.kept (t' := s.toks) k1
  have e := sortI_is h3 h4
  subst e
  have hlen : ((sortI ns).map V.int).length ≤ sizeLine := by rw [List.length_map, (sortI_perm ns).length_eq]; exact small64 h64
  exact ⟨.ref p, upd H p (.lst ((sortI ns).map V.int)), I1.laid (t' := s.toks) k2 hp ⟨hlen, out.toList, c, vals_of_ints h2, hg⟩, rfl, q p (I1.hok.fresh hp)⟩
theorem cr_maxT (hc : X.calm = true) : CallR X (.builtin "max") (fun vs H Q => ∃ (a : Addr) (ns : List Int), vs = [V.ref a] ∧ SqT X.K H a (ns.map V.int) ∧ 0 < ns.length ∧ ∀ m, m ∈ ns → (∀ y, y ∈ ns → y ≤ m) → Q (.int m) H) := by
  intro pins s σ H vs us Q I r h
  obtain ⟨a, ns, rfl, hs, hn, q⟩ := h
  obtain ⟨its, rv, tp, hz⟩ := I.tuple hs
  rw [Vals.ref1 r]
  exact max_tup (I.ok.hd hc) tp rv.ints hn fun h' tk m t' hk h1 h2 => ⟨.int m, H, I.kept hk, ⟨_, rfl⟩, q m h1 h2⟩
theorem cr_minT (hc : X.calm = true) : CallR X (.builtin "min") (fun vs H Q => ∃ (a : Addr) (ns : List Int), vs = [V.ref a] ∧ SqT X.K H a (ns.map V.int) ∧ 0 < ns.length ∧ ∀ m, m ∈ ns → (∀ y, y ∈ ns → m ≤ y) → Q (.int m) H) := by
  intro pins s σ H vs us Q I r h
  obtain ⟨a, ns, rfl, hs, hn, q⟩ := h
  obtain ⟨its, rv, tp, hz⟩ := I.tuple hs
  rw [Vals.ref1 r]
  exact min_tup (I.ok.hd hc) tp rv.ints hn fun h' tk m t' hk h1 h2 => ⟨.int m, H, I.kept hk, ⟨_, rfl⟩, q m h1 h2⟩
theorem call_or {f : Value} {r r' : List V → Hp → VK → Prop} (h : CallR X f r) (h' : CallR X f r') : CallR X f (fun vs H Q => r vs H Q ∨ r' vs H Q) := fun pins s σ H vs us Q I rv q => q.elim (h pins s σ H vs us Q I rv) (h' pins s σ H vs us Q I rv)
theorem rp_seqI {K : PySem.W.Frag} {F : Addr → Prop} {π : List Addr} {H : Hp} {M : Mem} (m : MemR F π H M) {v : V} {u : U} {d : D} {ds : List D} {ns : List Int} (r : RpU F π H v u) (h : rdv M u = some d) (hd : seqD d = some ds) (hn : intsD ds = some ns) :
    ∃ a, v = .ref a ∧ (SqL K H a (ns.map V.int) ∨ SqT K H a (ns.map V.int)) := by
  obtain ⟨a, vs, e, hs, rs⟩ := rdv_seq (K := K) m r h hd
  have ev := dp_ints (rs.dps (K := K)) hn
  subst ev
  exact ⟨a, e, hs⟩
theorem pr_max (hc : X.calm = true) : CallR X (.builtin "max") (rPr (prim .max)) := call_imp (call_or (call_max2 hc) (call_or (cr_max hc) (cr_maxT hc))) fun vs H Q ⟨F, π, M, us, ds, w, m, r, hv, hw, q⟩ => by
  match ds, hw with
  | [.int i, .int j], hw =>
    obtain ⟨v, v', u, u', rfl, rfl, ru, hd, ru', hd'⟩ := args2 r hv
    cases hw
    cases rdv_dp (K := X.K) m ru hd
    cases rdv_dp (K := X.K) m ru' hd'
    exact .inl ⟨i, j, rfl, q.same m rfl (.p (.int _))⟩
  | [d], hw =>
    obtain ⟨v, u, rfl, rfl, ru, hd⟩ := args1 r hv
    have hw : ((seqD d).bind intsD).bind (fun ns => (maxI ns).map PyData.int) = some w := by
      cases d <;> first | exact hw | (simp only [prim] at hw; exact hw)
    cases e1 : seqD d with
    | none => rw [e1] at hw; cases hw
    | some xs =>
      rw [e1] at hw
      cases e2 : intsD xs with
      | none => simp only [Option.bind_some, e2] at hw; cases hw
      | some ns =>
        simp only [Option.bind_some, e2] at hw
        cases e3 : maxI ns with
        | none => rw [e3] at hw; cases hw
        | some k =>
          rw [e3] at hw
          cases hw
          obtain ⟨a, rfl, hs⟩ := rp_seqI (K := X.K) m ru hd e1 e2
          have hn : 0 < ns.length := by cases ns with | nil => cases e3 | cons _ _ => simp
          have fin : ∀ m', m' ∈ ns → (∀ y, y ∈ ns → y ≤ m') → Q (.int m') H := fun m' h1 h2 => by
            rw [maxI_is e3 h1 h2]
            exact q.same m rfl (.p (.int _))
          rcases hs with hs | hs
          · exact .inr (.inl ⟨a, ns, rfl, hs, hn, fin⟩)
          · exact .inr (.inr ⟨a, ns, rfl, hs, hn, fin⟩)
theorem pr_min (hc : X.calm = true) : CallR X (.builtin "min") (rPr (prim .min)) := call_imp (call_or (call_min2 hc) (call_or (cr_min hc) (cr_minT hc))) fun vs H Q ⟨F, π, M, us, ds, w, m, r, hv, hw, q⟩ => by
  match ds, hw with
  | [.int i, .int j], hw =>
    obtain ⟨v, v', u, u', rfl, rfl, ru, hd, ru', hd'⟩ := args2 r hv
    cases hw
    cases rdv_dp (K := X.K) m ru hd
    cases rdv_dp (K := X.K) m ru' hd'
    exact .inl ⟨i, j, rfl, q.same m rfl (.p (.int _))⟩
  | [d], hw =>
    obtain ⟨v, u, rfl, rfl, ru, hd⟩ := args1 r hv
    have hw : ((seqD d).bind intsD).bind (fun ns => (minI ns).map PyData.int) = some w := by
      cases d <;> first | exact hw | (simp only [prim] at hw; exact hw)
    cases e1 : seqD d with
    | none => rw [e1] at hw; cases hw
    | some xs =>
      rw [e1] at hw
      cases e2 : intsD xs with
      | none => simp only [Option.bind_some, e2] at hw; cases hw
      | some ns =>
        simp only [Option.bind_some, e2] at hw
        cases e3 : minI ns with
        | none => rw [e3] at hw; cases hw
        | some k =>
          rw [e3] at hw
          cases hw
          obtain ⟨a, rfl, hs⟩ := rp_seqI (K := X.K) m ru hd e1 e2
          have hn : 0 < ns.length := by cases ns with | nil => cases e3 | cons _ _ => simp
          have fin : ∀ m', m' ∈ ns → (∀ y, y ∈ ns → m' ≤ y) → Q (.int m') H := fun m' h1 h2 => by
            rw [minI_is e3 h1 h2]
            exact q.same m rfl (.p (.int _))
          rcases hs with hs | hs
          · exact .inr (.inl ⟨a, ns, rfl, hs, hn, fin⟩)
          · exact .inr (.inr ⟨a, ns, rfl, hs, hn, fin⟩)
theorem pr_sorted : CallR X (.builtin "sorted") (rPr (prim .sorted)) := call_imp (call_or cr_sorted cr_sortedT) fun vs H Q ⟨F, π, M, us, ds, w, m, r, hv, hw, q⟩ => by
  match ds, hw with
  | [d], hw =>
    obtain ⟨v, u, rfl, rfl, ru, hd⟩ := args1 r hv
    simp only [prim] at hw
    cases e1 : seqD d with
    | none => rw [e1] at hw; cases hw
    | some xs =>
      rw [e1] at hw
      cases e2 : intsD xs with
      | none => simp only [Option.bind_some, e2] at hw; cases hw
      | some ns =>
        simp only [Option.bind_some, e2] at hw
        split at hw
        · rename_i h64
          cases hw
          obtain ⟨a, rfl, hs⟩ := rp_seqI (K := X.K) m ru hd e1 e2
          have fin : ∀ p, H p = none → Q (.ref p) (upd H p (.lst ((sortI ns).map V.int))) := fun p hp => q.lst m rfl (show LstR F π H _ _ from rp_ints _) hp
          rcases hs with hs | hs
          · exact .inl ⟨a, ns, rfl, hs, h64, fun ns' p h1 h2 hp => by rw [sortI_is h1 h2]; exact fin p hp⟩
          · exact .inr ⟨a, ns, rfl, hs, h64, fin⟩
        · cases hw
end
end VW
end
section
set_option maxHeartbeats 3200000
/-! set(xs) of a list of ints, sorted(set(xs)). -/
namespace VW
open PySem PySem.Spec L2
section
variable {P : Program} {w : World} {A : Around} {E : Value → Shared → Prop} {s : Shared}
/-- a new set -/
abbrev setO (w : World) : Obj := { cls := .type "set", dict := none, data := .set #[] 0 (.fresh 0 0 (!w.params.followText "set-order")) }
open PyProof.Rows in
theorem set_listI {l : Addr} {items : Array Value} (ns : List Int) {Q : Value → Shared → Prop} (hh : A.handled = none) (hl : s.heap.IsList l items) (hit : IntsAre items.toList ns) (hb : ns.length + 1 < scanBound)
    (h : ∀ (h' : Heap) (tk c : Nat), SetR w h' s.heap.objs.size (fun j => decide (j ∈ ns)) c → c ≤ ns.length → (∀ b o, s.heap.get? b = some o → h'.get? b = some o) → Q (.ref s.heap.objs.size) { s with heap := h', toks := tk }) :
    wpAny (model P w) A (call (.type "set") [.ref l]) Q E s := by
  have hisz : items.size = ns.length := by
    have q := IntsAre.length hit
    rwa [Array.length_toList] at q
  obtain ⟨mc, mtl, hmro⟩ := F.called_set.mro
  have hmade := F.called_set.made
  have hsub := F.called_set.sub
  refine wpAny_call (codeAny_of_tree ?_)
  show wpAny _ _ (callAny (.type "set") _) _ _ _
  refine wpAny_pure ⟨Code.quiet_builtin _ (by decide +kernel), codeAny_builtin F.entry_type_call ?_⟩
  rw [Around.under_plain (weight_type_call_type "set" [.ref l] []) rfl]
  have h1 := F.called_set.notType
  have h2 := F.called_set.canCreate
  have hct := F.typeCall_set_1 (.ref l)
  repeat (any_goals (first | assumption | wp_step))
  have led := code_set_led1 (P := P) (w := w) (A := A.in1) (s := s) (.ref l) (E := E) (Q₁ := fun obj s₁ => obj = .ref s.heap.objs.size ∧ s₁ = { s with heap := s.heap.push (setO w) }) ⟨rfl, rfl⟩
  refine codeAny_mono led fun r s₁ hr => ?_
  cases r with
  | error e => exact hr
  | ok fl =>
    cases fl with
    | ret obj =>
      obtain ⟨rfl, rfl⟩ := hr
      have hS : (s.heap.push (setO w)).get? s.heap.objs.size = some (setO w) := Heap.get?_push_size _ rfl
      have hT : Shared.TypeIs { s with heap := s.heap.push (setO w) } (.ref s.heap.objs.size) "set" := ⟨_, hS, rfl⟩
      have hli := F.called_set.init.lookup
      have hbi := F.called_set.init.bind (.ref s.heap.objs.size)
      repeat (any_goals (first | assumption | wp_step))
      refine codeAny_mono (codeAny_call_builtin (R := wants (fun r s₂ => r = .none ∧ ∃ h' tk c, s₂ = { s with heap := h', toks := tk } ∧ SetR w h' s.heap.objs.size (fun j => decide (j ∈ ns)) c ∧ c ≤ ns.length ∧ ∀ b o, s.heap.get? b = some o → h'.get? b = some o) E) F.called_set.init.plain F.entry_set_init (check_set_init_1 hT ?_)) fun r₂ s₂ hr₂ => ?_
      · obtain ⟨⟨ocls, odict, odata, oslots⟩, hol, hcl, nl, hdl⟩ := hl
        simp only at hcl hdl
        subst hcl hdl
        have hol' : (s.heap.push (setO w)).get? l = some { cls := .type "list", dict := odict, data := .seq items nl, slots := oslots } := Heap.get?_push_of_some _ hol
        have hsls := F.sub_list_set
        have hslf := F.sub_list_frozenset
        have hne : (Value.type "list" == Value.type "dict") = false := by decide
        have hl1 : (s.heap.push (setO w)).IsList l items := ⟨_, hol', rfl, nl, rfl⟩
        unfold Builtin.«set.__init__» noKeywords Builtin.Frozenset.updateFrom
        generalize hPI : pyIter = PI
        wp_walk
        subst hPI
        refine wpAny_pyIter_list hl1 ?_
        refine wpAny_bind (wpAny_runValue ?_)
        have hlS : l < s.heap.objs.size := Heap.lt_size hol
        have hz1 : (s.heap.push (setO w)).objs.size = s.heap.objs.size + 1 := Heap.size_push ..
        have hneI : l ≠ (s.heap.push (setO w)).objs.size := by rw [hz1]; exact Nat.ne_of_lt (Nat.lt_succ_of_lt hlS)
        have hSf : s.heap.objs.size ∉ [(s.heap.push (setO w)).objs.size, l] := by
          rw [hz1]
          simp only [List.mem_cons, List.not_mem_nil, or_false, not_or]
          exact ⟨Nat.ne_of_lt (Nat.lt_succ_self _), Nat.ne_of_gt hlS⟩
        have hval : ∀ (i : Nat) (v : Value), items[i]? = some v → ∃ k t, ns[i]? = some k ∧ v = .int k t := fun i v hv => by
          have hi : i < ns.length := by rw [← hisz]; exact (Array.getElem?_eq_some_iff.mp hv).1
          obtain ⟨t, e⟩ := hit.get i ns[i] (List.getElem?_eq_getElem hi)
          refine ⟨ns[i], t, List.getElem?_eq_getElem hi, ?_⟩
          rw [Array.getElem?_toList, hv] at e
          exact Option.some.inj e
        have hh3 : A.in1.in1.in1.handled = none := by simp [hh]
        refine set_update_ints ((Walks.list hh3 _ l hneI items).toS) s.heap.objs.size hSf ns hisz hb hval (items.size - 0) 0 _ (by omega) (Nat.zero_le _) ⟨⟨_, Heap.get?_push_size _ rfl, rfl, rfl⟩, (hl1.push _)⟩ ⟨0, Nat.le_refl 0, setR_new_at (Heap.get?_push_of_some _ hS)⟩ fun s' c' hm hc' hS' => ?_
        obtain ⟨h', g2, d', tk', os'⟩ := s'
        have eg : g2 = s.gens := hm.gens
        have ed : d' = s.drawn := hm.drawn
        have eo : os' = s.os := hm.os
        subst eg ed eo
        rw [hisz] at hc'
        refine wpAny_pure (wpAny_pure ⟨rfl, h', tk', c', rfl, hS', hc', fun b o e => ?_⟩)
        have hb0 : b < s.heap.objs.size := Heap.lt_size e
        refine hm.heap b o ?_ (Heap.get?_push_of_some _ (Heap.get?_push_of_some _ e))
        rw [hz1]
        simp only [List.mem_cons, List.not_mem_nil, or_false, not_or]
        exact ⟨Nat.ne_of_lt hb0, Nat.ne_of_lt (Nat.lt_succ_of_lt hb0)⟩
      · cases r₂ with
        | error e => exact hr₂
        | ok fl₂ =>
          cases fl₂ with
          | ret r =>
            obtain ⟨rfl, h', tk, c', rfl, hS', hc', hk'⟩ := hr₂
            repeat (any_goals (first | assumption | wp_step))
            exact h _ _ _ hS' hc' hk'
          | _ => exact hr₂.elim
    | _ => exact hr.elim
end
section
variable {X : Cx}
def rSetI (K : PySem.W.Frag) (w : World) : List V → Hp → VK → Prop := fun vs H Q => ∃ (a : Addr) (ns : List Int), vs = [V.ref a] ∧ (SqL K H a (ns.map V.int) ∨ SqT K H a (ns.map V.int)) ∧ ns.length ≤ 1000 ∧ ∀ S c, H S = none → c ≤ ns.length → Q (.ref S) (upd H S (L2.SetO w S (fun j => decide (j ∈ ns)) c))
theorem cr_setI (hc : X.calm = true) : CallR X (.type "set") (rSetI X.K X.w) := by
  intro pins s σ H vs us Q I r h
  obtain ⟨a, ns, rfl, hs, hl, q⟩ := h
  rw [Vals.ref1 r]
  have hn : H s.heap.objs.size = none := I.hok.fresh (Nat.le_refl _)
  have fin : ∀ (h' : Heap) (tk c : Nat), SetR X.w h' s.heap.objs.size (fun j => decide (j ∈ ns)) c → c ≤ ns.length → (∀ b o, s.heap.get? b = some o → h'.get? b = some o) → EP X pins σ Q (.ref s.heap.objs.size) { s with heap := h', toks := tk } := fun h' tk c R hcn k =>
    ⟨.ref _, _, I.laid (t' := tk) k (Nat.le_refl _) (L2.setO_new R), rfl, q _ c hn hcn⟩
  rcases hs with hs | hs
  · obtain ⟨its, rv, pl, _⟩ := I.list hs
    exact set_listI ns (I.ok.hd hc) pl.isList (by simpa using rv.ints) (by unfold scanBound; omega) fin
  · obtain ⟨its, rv, pt, _⟩ := I.tuple hs
    exact call_set_tupI ns (I.ok.hd hc) (show s.heap.IsTuple a its.toArray from pt) (by simpa using rv.ints) (by unfold scanBound; omega) fin
/-- sorted(set(e)) -/
theorem l_sortedSet {ca : Str → Addr} {Φ : Fn} {E : XK} {cs : CEs} {e : Expr} {p1 p2 p3 pos : Pos} (hc : X.calm = true) (hg : Gl X "sorted") (hm : X.mg "sorted" = none) (hg2 : Gl X "set") (hm2 : X.mg "set" = none) (hp : plainE e = true) (ha : PA X [e] (tL ca Φ E cs)) :
    PE X (.Call (.Name "sorted" p1) [.Call (.Name "set" p2) [e] [] p3] [] pos) (tS ca Φ E (.prim .sortedSet cs)) := by
  refine PE.imp (pe_callB (cr_sortedSet hc) hg hm (by decide +kernel) (pa_cons (pe_callTy (cr_setI hc) hg2 hm2 (by decide +kernel) ha (by decide) (by decide) (star_plain hp _ _) rfl) pa_nil rfl)) fun σ H Q ⟨F, π, ρ, M, hr, hm, h⟩ => ?_
  simp only [evE] at h
  refine ⟨F, π, ρ, M, hr, hm, h.bind.imp fun us M1 h1 => ?_⟩
  intro vs F1 π1 H1 p1 m1 r1
  obtain ⟨u, hu, q⟩ := h1.of
  cases ev : vals M1 us with
  | none => rw [ev] at hu; cases hu
  | some ds =>
    rw [ev] at hu
    cases ew : prim .sortedSet ds with
    | none => simp only [Option.bind_some, ew] at hu; cases hu
    | some w =>
      simp only [Option.bind_some, ew] at hu
      cases hu
      match ds, ew with
      | [d], hw =>
        obtain ⟨v, u, rfl, rfl, ru, hd⟩ := args1 r1 ev
        simp only [prim] at hw
        cases e1 : seqD d with
        | none => rw [e1] at hw; cases hw
        | some xs =>
          rw [e1] at hw
          cases e2 : intsD xs with
          | none => simp only [Option.bind_some, e2] at hw; cases hw
          | some ns =>
            simp only [Option.bind_some, e2] at hw
            split at hw
            · rename_i h64
              cases hw
              obtain ⟨a, rfl, hs⟩ := rp_seqI (K := X.K) m1 ru hd e1 e2
              refine ⟨a, ns, rfl, hs, by omega, fun S c hS hc' => ⟨S, _, c, rfl, upd_same, by omega, fun ms p h1 h2 h3 hp => ?_⟩⟩
              have e := sortDed_is (ns := ns) (fun k => by rw [h2 k]; simp) h1
              subst e
              exact ((q.move p1).move (Post.laid hS)).lst (m1.laid hS) rfl (show LstR F1 π1 _ _ _ from rp_ints _) hp
            · cases hw
end
end VW
end
section
set_option maxHeartbeats 1000000
/-! Methods: find, join, index. -/
namespace VW
open PySem PySem.Spec L2
section
variable {X : Cx}
theorem PE.or {e : Expr} {t t' : TE} (h : PE X e t) (h' : PE X e t') : PE X e (fun σ H Q => t σ H Q ∨ t' σ H Q) := ⟨fun pins s σ H Q I q => q.elim (h.run pins s σ H Q I) (h'.run pins s σ H Q I)⟩
/-- t.index(x) of a tuple of data -/
theorem mt_tupIx (hu : X.A.units + 65 < cLine) : MtR X "tuple.index" (fun x xs H Q => ∃ (a : Addr) (y : V) (d : PyData) (ds : List PyData) (ws : List V) (j : Nat) (z : PyData), x = V.ref a ∧ xs = [y] ∧ SqT X.K H a ws ∧ DpAll X.K H ws ds ∧ Dp X.K H y d ∧
    SeqAt.shaped (.list ds) = true ∧ SeqAt.shaped d = true ∧ ds[j]? = some z ∧ PyData.eqv z d = true ∧ (∀ (m : Nat) (z' : PyData), m < j → ds[m]? = some z' → PyData.eqv z' d = false) ∧ Q (.int (j : Nat)) H) := by
  intro pins s σ H x xs v us Q I rx rxs h
  obtain ⟨a, y, d, ds, ws, j, z, rfl, rfl, hs, ha, hy, sl, sd, hz, hzj, hno, q⟩ := h
  cases rx
  obtain ⟨uy, rfl, ry⟩ := vals1 rxs
  obtain ⟨bs, r1⟩ := Dp.reads I d y uy hy ry
  have hxs : PyData.canLayAll0 ds = true := SeqAt.canLay_of_shaped sl
  have hroom : X.A.units + 1 + min (PyData.depthAll ds) d.depth < cLine := PyProof.Rows.room_in_shaped sd hu
  obtain ⟨its, rv, ⟨⟨cls, dd, data, sls⟩, ho, hc, n, hdt⟩, hlen⟩ := I.tuple hs
  simp only at hc hdt
  subst hc hdt
  obtain ⟨as, h4⟩ := Dp.readsAll I ds _ its ha rv
  have hn : its.length = ds.length := SeqAt.ReadsAll.length ds its as h4
  have hmap : its.map (SeqAt.readOf s.heap) = ds := SeqAt.readsAll_map ds its as hxs h4
  have hjd := (List.getElem?_eq_some_iff.mp hz).1
  have hj : j < its.toArray.size := by rw [List.size_toArray]; omega
  have rd : ∀ (m : Nat) (hm : m < its.toArray.size) (z' : PyData), ds[m]? = some z' → SeqAt.readOf s.heap its.toArray[m] = z' := fun m hm z' hz' => by
    have hml : m < its.length := by simpa using hm
    rw [← hmap, List.getElem?_map, List.getElem?_eq_getElem hml] at hz'
    simpa using Option.some.inj hz'
  refine call_meets PySem.F.slot_tuple_index ⟨_, ho, rfl⟩ PySem.F.entry_tuple_index (PySem.F.args_tuple_index_2 _ _)
    (TI.tuple_indexAt a its.toArray n dd sls uy (fun u => PyData.eqv (SeqAt.readOf s.heap u) d) j hj (by rw [rd j hj z hz]; exact hzj) fun m hm hmj => ?_) ⟨ho, SeqAt.items_eqAt (vs := its.toArray) (show ReadsAll s.heap its.toArray.toList ds as from h4) r1 hxs (SeqAt.canLay_of_shaped sd) hroom, ⟨.int (j : Nat), H, I.tok _, ⟨_, rfl⟩, q⟩⟩
  have hmd : m < ds.length := by omega
  rw [rd m hm _ (List.getElem?_eq_getElem hmd)]
  exact hno m _ hmj (List.getElem?_eq_getElem hmd)
/-- o.m(e) of a tuple that is tracked -/
theorem pe_bmT {o e : Expr} {to : TE} {t : TA} {name : Str} {apos cpos : Pos} {id : String} {r : V → List V → Hp → VK → Prop} (slot : Slot "tuple" name id) (hty : typeOf (.builtin id) = pure (.type "method_descriptor")) (hm : MtR X id r) (ho : PE X o to) (ha : PA X [e] t)
    (hbase : attributeBase o name X.env (eval o X.env) = eval o X.env) (hline : (apos.endLine == cpos.line) = true) (hs : starEach [e] X.env = (false, eval e X.env) :: starEach [] X.env) :
    PE X (.Call (.Attribute o name apos) [e] [] cpos) (fun σ H Q => to σ H fun x H1 => (∃ a ob xs, x = V.ref a ∧ H1 a = some (.frz ob (.tup xs)) ∧ ob.dict = none) ∧ t σ H1 fun xs H2 => r x xs H2 Q) := by
  refine ⟨fun pins s σ H Q I h => ?_⟩
  refine wpAny_Call_method_late hbase (by rw [hs]; rfl) hline rfl (thn (ho.run pins s σ H _ I h) fun v s1 hv => ?_)
  obtain ⟨x, H1, I1, r1, ⟨a, ob, xs, rfl, hob, hdn⟩, q1⟩ := hv
  obtain rfl : v = Value.ref a := r1
  obtain ⟨hget, hz, us0, rv0, ⟨o2, ho2, hc2, n2, hd2⟩⟩ := I1.hok a _ hob
  have e2 : o2 = ob := Option.some.inj (ho2.symm.trans hget)
  refine ⟨"tuple", id, PySem.F.plainAttrs_tuple, slot, hty, ⟨ob, hget, by rw [← e2]; exact hc2⟩, fun b hb => ⟨ob, by cases hb; exact hget, hdn⟩, ?_⟩
  have hA := ha.run cpos pins s1 σ H1 _ I1 q1
  rw [hs] at hA ⊢
  refine Calls.callWith_builtin rfl (Calls.evalArgs_plain ?_)
  exact thn hA fun us s2 ⟨vs, H2, I2, r2, q2⟩ => hm pins s2 σ H2 (.ref a) vs (.ref a) us Q I2 rfl r2 q2
end
section
variable {G : St0} {ca : Str → Addr} {X : Cx} {sc : Scope} {fc : Str → Bool} {k : Nat} {Φ : Fn} {E : XK} {pos : Pos} {apos cpos : Pos}
theorem met_args {m : Mt} {c : CE} {cs : CEs} {σ : St} {H : Hp} {Q : VK} (h : tE ca Φ E (.met m c cs) σ H Q) : ∃ F π ρ M, EnvR F π H ρ σ ∧ MemR F π H M ∧ Out ca E F π H (evE Φ c ρ M) (fun x M1 => ∃ d0, val M1 x = some d0 ∧ recv m d0 = true ∧ Out ca E F π H (evL Φ cs ρ M1) fun us M2 => ∃ d ds w, val M2 x = some d ∧ vals M2 us = some ds ∧ meth m d ds = some w ∧ VQ F π H Q (.p w) M2) := by
  obtain ⟨F, π, ρ, M, hr, hm, h⟩ := h
  simp only [evE] at h
  refine ⟨F, π, ρ, M, hr, hm, h.bind.imp fun x M1 h1 => ?_⟩
  split at h1
  · rename_i hrc
    unfold recvU at hrc
    cases e0 : val M1 x with
    | none => rw [e0] at hrc; cases hrc
    | some d0 =>
      rw [e0] at hrc
      refine ⟨d0, rfl, hrc, h1.bind.imp fun us M2 h2 => ?_⟩
      split at h2
      · rename_i d ds e1 e2
        obtain ⟨u, hu, q⟩ := h2.of
        cases e3 : meth m d ds with
        | none => rw [e3] at hu; cases hu
        | some w =>
          rw [e3] at hu
          cases hu
          exact ⟨d, ds, w, e1, e2, e3, q⟩
      · exact False.elim h2
  · exact False.elim h1
theorem val_str' {M : Mem} {x : U} {z : Str} (h : val M x = some (.str z)) : x = .p (.str z) := by
  cases x with
  | p d => cases h; rfl
  | ref n => simp only [val] at h; split at h <;> cases h
  | rl ns => cases h
  | scr ds => cases h
theorem val_tup' {M : Mem} {x : U} {z : List D} (h : val M x = some (.tuple z)) : x = .p (.tuple z) := by
  cases x with
  | p d => cases h; rfl
  | ref n => simp only [val] at h; split at h <;> cases h
  | rl ns => cases h
  | scr ds => cases h
theorem recv_str {m : Mt} {d : D} (hm : m = .find ∨ m = .join) (h : recv m d = true) : ∃ z, d = .str z := by
  rcases hm with rfl | rfl <;> cases d <;> first | exact ⟨_, rfl⟩ | cases h
theorem l_find {o e : Expr} {c : CE} {cs : CEs} (hb : attributeBase o "find" X.env (eval o X.env) = eval o X.env) (hl : (apos.endLine == cpos.line) = true) (hp : plainE e = true) (ho : PE X o (tE ca Φ E c)) (ha : PA X [e] (tL ca Φ E cs)) :
    PE X (.Call (.Attribute o "find" apos) [e] [] cpos) (tE ca Φ E (.met .find c cs)) := by
  have hs := star_plain hp [] X.env
  refine PE.imp (pe_bm PySem.F.plainAttrs_str PySem.F.slot_str_find PySem.F.type_str_find mt_find ho ha hb (by rw [hs]; rfl) hl hs rfl) fun σ H Q h => ?_
  obtain ⟨F, π, ρ, M, hr, hm, h⟩ := met_args h
  refine ⟨F, π, ρ, M, hr, hm, h.imp fun x M1 ⟨d0, h0, hrc, h1⟩ => ?_⟩
  intro v F1 π1 H1 p1 m1 r1
  obtain ⟨z, rfl⟩ := recv_str (.inl rfl) hrc
  have ex := val_str' h0
  subst ex
  cases r1 with
  | p r1 =>
    cases r1
    refine ⟨rfl, F1, π1, ρ, M1, hr.mono p1, m1, (h1.move p1).imp fun us M2 ⟨d, ds, w, e1, e2, e3, q⟩ => ?_⟩
    intro vs F2 π2 H2 p2 m2 r2
    cases e1
    match ds, e3 with
    | [.str y], e3 =>
      obtain ⟨v2, u2, rfl, rfl, ru, hd⟩ := args1 r2 e2
      cases e3
      cases rdv_dp (K := X.K) m2 ru hd
      exact ⟨z, y, rfl, rfl, q _ F2 π2 H2 (p1.trans p2) m2 (.p (.int _))⟩
theorem l_join {o e : Expr} {c : CE} {cs : CEs} (hb : attributeBase o "join" X.env (eval o X.env) = eval o X.env) (hl : (apos.endLine == cpos.line) = true) (hp : plainE e = true) (ho : PE X o (tE ca Φ E c)) (ha : PA X [e] (tL ca Φ E cs)) :
    PE X (.Call (.Attribute o "join" apos) [e] [] cpos) (tE ca Φ E (.met .join c cs)) := by
  have hs := star_plain hp [] X.env
  refine PE.imp (pe_bm PySem.F.plainAttrs_str PySem.F.slot_str_join PySem.F.type_str_join mt_join ho ha hb (by rw [hs]; rfl) hl hs rfl) fun σ H Q h => ?_
  obtain ⟨F, π, ρ, M, hr, hm, h⟩ := met_args h
  refine ⟨F, π, ρ, M, hr, hm, h.imp fun x M1 ⟨d0, h0, hrc, h1⟩ => ?_⟩
  intro v F1 π1 H1 p1 m1 r1
  obtain ⟨z, rfl⟩ := recv_str (.inr rfl) hrc
  have ex := val_str' h0
  subst ex
  cases r1 with
  | p r1 =>
    cases r1
    refine ⟨rfl, F1, π1, ρ, M1, hr.mono p1, m1, (h1.move p1).imp fun us M2 ⟨d, ds, w, e1, e2, e3, q⟩ => ?_⟩
    intro vs F2 π2 H2 p2 m2 r2
    cases e1
    match ds, e3 with
    | [dd], e3 =>
      obtain ⟨v2, u2, rfl, rfl, ru, hd⟩ := args1 r2 e2
      simp only [meth] at e3
      cases f1 : seqD dd with
      | none => rw [f1] at e3; cases e3
      | some xs =>
        rw [f1] at e3
        cases f2 : strsD xs with
        | none => simp only [Option.bind_some, f2] at e3; cases e3
        | some ys =>
          simp only [Option.bind_some, f2] at e3
          split at e3
          · rename_i hz
            cases e3
            obtain ⟨a, ws, rfl, hsq, rs⟩ := rdv_seq (K := X.K) m2 ru hd f1
            have ev := dp_strs (rs.dps (K := X.K)) f2
            subst ev
            refine ⟨z, a, ys, rfl, rfl, hsq, ?_, q _ F2 π2 H2 (p1.trans p2) m2 (.p (.str _))⟩
            have e : ys.map (fun x => x.length) = ys.map Str.length := rfl
            rw [e, Nat.add_comm, Nat.mul_comm]
            exact hz
          · cases e3
theorem findIx_spec {α : Type} {p : α → Bool} : ∀ {xs : List α} {j : Nat}, findIx p xs = some j → (∃ z, xs[j]? = some z ∧ p z = true) ∧ ∀ m z, m < j → xs[m]? = some z → p z = false
  | [], _, h => by cases h
  | x :: xs, j, h => by
    unfold findIx at h
    split at h
    · rename_i hx
      cases h
      exact ⟨⟨x, rfl, hx⟩, fun m z hm => by omega⟩
    · rename_i hx
      cases e : findIx p xs with
      | none => rw [e] at h; cases h
      | some i =>
        rw [e] at h
        cases h
        obtain ⟨⟨z, h1, h2⟩, h3⟩ := findIx_spec e
        refine ⟨⟨z, by simpa using h1, h2⟩, fun m z' hm hz => ?_⟩
        cases m with
        | zero => cases hz; simpa using hx
        | succ m => exact h3 m z' (Nat.lt_of_succ_lt_succ hm) (by simpa using hz)
theorem l_index (g : Good G ca X sc fc k Φ E) {o e : Expr} {c : CE} {cs : CEs} (hb : attributeBase o "index" X.env (eval o X.env) = eval o X.env) (hl : (apos.endLine == cpos.line) = true) (hp : plainE e = true) (ho : PE X o (tE ca Φ E c)) (ha : PA X [e] (tL ca Φ E cs)) :
    PE X (.Call (.Attribute o "index" apos) [e] [] cpos) (tE ca Φ E (.met .index c cs)) := by
  have hs := star_plain hp [] X.env
  have hu : X.A.units + 65 < cLine := by have := g.room.un; omega
  refine PE.imp (PE.or (pe_bm PySem.F.plainAttrs_list PySem.F.slot_list_index PySem.F.type_list_index (mt_indexD hu) ho ha hb (by rw [hs]; rfl) hl hs rfl) (pe_bmT PySem.F.slot_tuple_index PySem.F.type_tuple_index (mt_tupIx hu) ho ha hb hl hs)) fun σ H Q h => ?_
  obtain ⟨F, π, ρ, M, hr, hm, h⟩ := met_args h
  cases ex : evE Φ c ρ M with
  | exc c1 M1 =>
    rw [ex] at h
    exact .inl ⟨F, π, ρ, M, hr, hm, by rw [ex]; exact h⟩
  | bad => rw [ex] at h; exact False.elim h
  | ok x M1 =>
    rw [ex] at h
    obtain ⟨d0, h0, hrc, h1⟩ := h
    cases d0 with
    | list es =>
      refine .inl ⟨F, π, ρ, M, hr, hm, ?_⟩
      rw [ex]
      intro v F1 π1 H1 p1 m1 r1
      obtain ⟨a, ws, rfl, hq, _⟩ := val_lst m1 r1 h0
      refine ⟨.inl ⟨rfl, ws, .inl (.inl hq)⟩, F1, π1, ρ, M1, hr.mono p1, m1, (h1.move p1).imp fun us M2 ⟨d, ds, w, e1, e2, e3, q⟩ => ?_⟩
      intro vs F2 π2 H2 p2 m2 r2
      have r1' := r1.mono p2
      cases d with
      | list ys =>
        match ds, e3 with
        | [zz], e3 =>
          obtain ⟨v2, u2, rfl, rfl, ru, hd⟩ := args1 r2 e2
          simp only [meth, indexD] at e3
          split at e3
          · rename_i hsh
            rw [Bool.and_eq_true] at hsh
            cases f1 : findIx (fun y => PyData.eqv y zz) ys with
            | none => rw [f1] at e3; cases e3
            | some j =>
              rw [f1] at e3
              cases e3
              obtain ⟨⟨y, y1, y2⟩, y3⟩ := findIx_spec f1
              exact ⟨a, v2, zz, ys, j, y, rfl, rfl, val_dp m2 r1' e1, rdv_dp m2 ru hd, hsh.1, hsh.2, y1, y2, y3, q _ F2 π2 H2 (p1.trans p2) m2 (.p (.int _))⟩
          · cases e3
      | tuple ys =>
        exfalso
        have := val_tup' e1
        subst this
        cases h0
      | _ => cases e3
    | tuple es =>
      have exu := val_tup' h0
      subst exu
      refine .inr ⟨F, π, ρ, M, hr, hm, ?_⟩
      rw [ex]
      intro v F1 π1 H1 p1 m1 r1
      cases r1 with
      | p r1 =>
        cases r1 with
        | tup ht hdn rs =>
          refine ⟨⟨_, _, _, rfl, ht, hdn⟩, F1, π1, ρ, M1, hr.mono p1, m1, (h1.move p1).imp fun us M2 ⟨d, ds, w, e1, e2, e3, q⟩ => ?_⟩
          intro vs F2 π2 H2 p2 m2 r2
          cases e1
          match ds, e3 with
          | [zz], e3 =>
            obtain ⟨v2, u2, rfl, rfl, ru, hd⟩ := args1 r2 e2
            simp only [meth, indexD] at e3
            split at e3
            · rename_i hsh
              rw [Bool.and_eq_true] at hsh
              cases f1 : findIx (fun y => PyData.eqv y zz) es with
              | none => rw [f1] at e3; cases e3
              | some j =>
                rw [f1] at e3
                cases e3
                obtain ⟨⟨y, y1, y2⟩, y3⟩ := findIx_spec f1
                exact ⟨_, v2, zz, es, _, j, y, rfl, rfl, .inl (.inr ⟨_, p2.le.frz _ _ _ ht⟩), (rs.mono p2.le).dps, rdv_dp m2 ru hd, hsh.1, hsh.2, y1, y2, y3, q _ F2 π2 H2 (p1.trans p2) m2 (.p (.int _))⟩
            · cases e3
    | _ => cases hrc
end
end VW
end
section
set_option maxHeartbeats 1000000
/-! What is walked, targets, comprehensions. -/
namespace VW
open PySem PySem.Spec L2

/-! ### targets -/
def gTs : List Nat → TGs
  | [] => gNil
  | i :: r => gCons (gName i) (gTs r)
def gT (K : PySem.W.Frag) : Tg → TG
  | .nm i => gName i
  | .tp is => gTup K is.length (gTs is)
def locB (sc : Scope) (fc : Str → Bool) (x : Str) : Bool := match sc.names.lookup x with
  | some .local => true
  | some .cell => fc x
  | _ => false
def chkNm (N : List Str) (sc : Scope) (fc : Str → Bool) (i : Nat) : Expr → Bool
  | .Name x _ => decide (N[i]? = some x) && locB sc fc x && okName x
  | _ => false
def chkNms (N : List Str) (sc : Scope) (fc : Str → Bool) : List Nat → List Expr → Bool
  | [], [] => true
  | i :: is, e :: es => chkNm N sc fc i e && chkNms N sc fc is es
  | _, _ => false
def chkG (N : List Str) (sc : Scope) (fc : Str → Bool) : Tg → Expr → Bool
  | .nm i, e => chkNm N sc fc i e
  | .tp is, .Tuple es _ _ => chkNms N sc fc is es
  | _, _ => false
section
variable {G : St0} {ca : Str → Addr} {X : Cx} {sc : Scope} {fc : Str → Bool} {k : Nat} {Φ : Fn} {E : XK} {pos : Pos}
theorem pg_nm (g : Good G ca X sc fc k Φ E) {i : Nat} {e : Expr} (h : chkNm X.N sc fc i e = true) : PG X e (gName i) := by
  cases e with
  | Name x p =>
    simp only [chkNm, Bool.and_eq_true, decide_eq_true_eq] at h
    obtain ⟨⟨h1, h2⟩, h3⟩ := h
    unfold locB at h2
    refine pg_name g.nd h1 ?_ ?_
    · rw [g.scope]
      unfold L2.Loc
      split at h2 <;> simp_all
    · rw [g.scope]
      split at h2
      · rename_i e; exact .inr e
      · exact .inl (g.fnc x h2)
      · cases h2
  | _ => cases h
theorem pgs_nms (g : Good G ca X sc fc k Φ E) : ∀ {is : List Nat} {es : List Expr}, chkNms X.N sc fc is es = true → PGs X es (gTs is) ∧ (assignEach es X.env).length = is.length ∧ (assignEach es X.env).findIdx? (·.1) = none
  | [], [], _ => ⟨pgs_nil, rfl, rfl⟩
  | i :: is, e :: es, h => by
    simp only [chkNms, Bool.and_eq_true] at h
    obtain ⟨i1, i2, i3⟩ := pgs_nms g h.2
    have hn := pg_nm g h.1
    cases e with
    | Name x p =>
      refine ⟨pgs_cons hn i1 rfl, ?_, ?_⟩
      · show (assignEach es X.env).length + 1 = _
        rw [i2]; rfl
      · have q : assignEach (.Name x p :: es) X.env = (false, assign (.Name x p) X.env) :: assignEach es X.env := rfl
        rw [q, List.findIdx?_cons]
        simp only [Bool.false_eq_true, if_false, i3, Option.map_none]
    | _ => cases h.1
  | [], _ :: _, h => by cases h
  | _ :: _, [], h => by cases h
theorem pg_tg (g : Good G ca X sc fc k Φ E) {t : Tg} {e : Expr} (h : chkG X.N sc fc t e = true) : PG X e (gT X.K t) := by
  cases t with
  | nm i => exact pg_nm g h
  | tp is =>
    cases e with
    | Tuple es j p =>
      obtain ⟨i1, i2, i3⟩ := pgs_nms g h
      exact pg_tup g.calm i1 i2 i3
    | _ => cases h
end
section
variable {F : Addr → Prop} {π : List Addr} {H : Hp}
theorem EnvR.set {ρ : Env} {σ : St} {i : Nat} {u : U} {v : V} (r : EnvR F π H ρ σ) (q : RpU F π H v u) : EnvR F π H (ρ.set i (some u)) (σ.set i (some v)) := ⟨by rw [List.length_set, List.length_set]; exact r.len, fun j w h => by
  by_cases hj : i = j
  · subst hj
    have hi : i < ρ.length := by
      have := (List.getElem?_eq_some_iff.mp h).1
      rw [List.length_set] at this
      exact this
    rw [List.getElem?_set_self hi] at h
    cases h
    exact ⟨v, by rw [List.getElem?_set_self (by have := r.len; omega)], q⟩
  · rw [List.getElem?_set_ne hj] at h
    obtain ⟨v', e, q'⟩ := r.get j w h
    exact ⟨v', by rw [List.getElem?_set_ne hj]; exact e, q'⟩⟩
/-- what a target changes -/
structure Chg (is : List Nat) (σ σ1 : St) : Prop where
  out : ∀ n : Nat, n ∉ is → σ1[n]? = σ[n]?
  len : σ1.length = σ.length
theorem gTs_ok : ∀ {is : List Nat} {ρ ρ1 : Env} {σ : St} {vs : List V} {ds : List D} {Z : St → Hp → Prop}, EnvR F π H ρ σ → RpDs F H vs ds → setAll ρ is ds = some ρ1 →
    (∀ σ1, EnvR F π H ρ1 σ1 → Chg is σ σ1 → Z σ1 H) → gTs is vs σ H Z
  | [], ρ, ρ1, σ, vs, ds, Z, hr, rd, h, z => by
    cases ds with
    | nil => cases h; cases rd; exact ⟨rfl, z σ hr ⟨fun _ _ => rfl, rfl⟩⟩
    | cons _ _ => cases h
  | i :: is, ρ, ρ1, σ, vs, ds, Z, hr, rd, h, z => by
    cases rd with
    | nil => cases h
    | cons r t =>
      rename_i v vs d ds
      refine ⟨v, vs, rfl, ?_⟩
      refine gTs_ok (hr.set (.p r)) t h fun σ1 e1 e3 => z σ1 e1 ⟨fun n hn => ?_, by rw [e3.len, List.length_set]⟩
      rw [e3.out n (fun q => hn (List.mem_cons_of_mem _ q)), List.getElem?_set_ne (fun q => hn (by rw [q]; exact List.mem_cons_self))]
def Tg.is : Tg → List Nat
  | .nm i => [i]
  | .tp is => is
theorem gT_ok {K : PySem.W.Frag} {g : Tg} {u : U} {v : V} {ρ ρ1 : Env} {σ : St} {Z : St → Hp → Prop} (hr : EnvR F π H ρ σ) (r : RpU F π H v u) (h : put g u ρ = some ρ1)
    (z : ∀ σ1, EnvR F π H ρ1 σ1 → Chg g.is σ σ1 → Z σ1 H) : gT K g v σ H Z := by
  cases g with
  | nm i =>
    cases h
    exact z _ (hr.set r) ⟨fun n hn => by rw [List.getElem?_set_ne (fun q => hn (by rw [q]; exact List.mem_cons_self))], by rw [List.length_set]⟩
  | tp is =>
    cases u with
    | p d =>
      cases d with
      | tuple ds =>
        cases r with
        | p r =>
          cases r with
          | tup ht _ rs =>
            refine ⟨_, _, rfl, .inl (.inr ⟨_, ht⟩), ?_, gTs_ok hr rs h z⟩
            rw [rs.length]
            exact (setAll_len h).symm
      | _ => cases h
    | _ => cases h
where
  setAll_len {ρ ρ1 : Env} : ∀ {is : List Nat} {ds : List D}, setAll ρ is ds = some ρ1 → is.length = ds.length := by
    intro is
    induction is generalizing ρ with
    | nil => intro ds h; cases ds with
      | nil => rfl
      | cons _ _ => cases h
    | cons i is ih => intro ds h; cases ds with
      | nil => cases h
      | cons d ds => rw [List.length_cons, List.length_cons, ih h]
/-- a pair that was made for the turn alone -/
theorem gT_pair {K : PySem.W.Frag} {g : Tg} {T : Addr} {x v : V} {d e : D} {ρ ρ1 : Env} {σ : St} {Z : St → Hp → Prop} (hr : EnvR F π H ρ σ) (hT : H T = some (.tup [x, v])) (r1 : RpD F H x d) (r2 : RpD F H v e) (h : put g (.p (.tuple [d, e])) ρ = some ρ1) (hg : ∃ is, g = .tp is)
    (z : ∀ σ1, EnvR F π H ρ1 σ1 → Chg g.is σ σ1 → Z σ1 H) : gT K g (.ref T) σ H Z := by
  obtain ⟨is, rfl⟩ := hg
  refine ⟨T, _, rfl, .inl (.inl hT), ?_, gTs_ok hr (.cons r1 (.cons r2 .nil)) h z⟩
  exact (gT_ok.setAll_len h).symm

/-! ### what is walked -/
/-- the walk J goes over xs while S stands; pr: each item in a pair that is made new -/
structure Src (J : It) (xs : List U) (pr : Bool) (S : (Addr → Prop) → List Addr → Hp → Prop) : Prop where
  go : ∀ F π H i, S F π H → i < xs.length → J.go i H
  stop : ∀ F π H i, S F π H → i = xs.length → J.stop i H
  one : pr = false → ∀ F π H i x H' u, S F π H → J.yld i H x H' → xs[i]? = some u → H' = H ∧ RpU F π H x u
  two : pr = true → ∀ F π H i x H' u, S F π H → J.yld i H x H' → xs[i]? = some u → ∃ T v d, x = .ref T ∧ H T = none ∧ H' = upd H T (.tup [.int (i : Nat), v]) ∧ u = .p (.tuple [.int (i : Nat), d]) ∧ RpD F H v d
def Keeps (S : (Addr → Prop) → List Addr → Hp → Prop) (M0 : Mem) (us : List U) : Prop := ∀ F π H F' π' H' M', S F π H → Post F π H F' π' H' → MemR F' π' H' M' → stands M0 M' us = true → S F' π' H'
def IT.pr : IT → Bool
  | .enum => true
  | _ => false
/-- what a walk is asked -/
def tI (ca : Str → Addr) (Φ : Fn) (E : XK) (it : IT) (cs : CEs) : TI := fun σ H R => ∃ F π ρ M, EnvR F π H ρ σ ∧ MemR F π H M ∧ Out ca E F π H (evL Φ cs ρ M) (fun us M1 => ∃ xs, walk M1 it us = some xs ∧
  ∀ F1 π1 H1, Post F π H F1 π1 H1 → MemR F1 π1 H1 M1 → ∀ J S, Src J xs it.pr S → S F1 π1 H1 → Keeps S M1 us → R J H1)
theorem PI.imp {X : Cx} {tg iter : Expr} {t t' : TI} (h : PI X tg iter t) (i : ∀ σ H R, t' σ H R → t σ H R) : PI X tg iter t' := ⟨fun pins s σ H R I q => h.run pins s σ H R I (i σ H R q)⟩
theorem PI.or {X : Cx} {tg iter : Expr} {t t' : TI} (h : PI X tg iter t) (h' : PI X tg iter t') : PI X tg iter (fun σ H R => t σ H R ∨ t' σ H R) := ⟨fun pins s σ H R I q => q.elim (h.run pins s σ H R I) (h'.run pins s σ H R I)⟩
end
end VW
end
section
set_option maxHeartbeats 1000000
/-! Walks. -/
namespace VW
open PySem PySem.Spec L2
section
variable {F : Addr → Prop} {π : List Addr} {H : Hp} {M : Mem}
theorem rpus_p : ∀ {vs : List V} {ds : List D}, RpDs F H vs ds → RpUs F π H vs (ds.map .p)
  | _, _, .nil => .nil
  | _, _, .cons r t => .cons (.p r) (rpus_p t)
theorem rpus_ref : ∀ {vs : List V} {ns : List Nat}, NmR π vs ns → RpUs F π H vs (ns.map .ref)
  | _, _, .nil => .nil
  | _, _, .cons r t => .cons (.ref r) (rpus_ref t)
theorem RpUs.get : ∀ {vs : List V} {us : List U} {i : Nat} {u : U}, RpUs F π H vs us → us[i]? = some u → ∃ v, vs[i]? = some v ∧ RpU F π H v u
  | _, _, _, _, .nil, e => by simp at e
  | _, _, 0, _, .cons r _, e => by simp at e; subst e; exact ⟨_, rfl, r⟩
  | _, _, i + 1, d, .cons _ t, e => by
    obtain ⟨v, h1, h2⟩ := RpUs.get (i := i) (u := d) t (by simpa using e)
    exact ⟨v, by simpa using h1, h2⟩
/-- a list, at a, of data or of names, however it is held -/
def SL (K : PySem.W.Frag) (a : Addr) (u : U) (xs : List U) : (Addr → Prop) → List Addr → Hp → Prop := fun F π H => RpU F π H (.ref a) u ∧ ∃ vs, SqL K H a vs ∧ RpUs F π H vs xs
theorem src_list {K : PySem.W.Frag} {a : Addr} {u : U} {xs : List U} : Src (Itl K a) xs false (SL K a u xs) where
  go := fun F π H i ⟨_, vs, hs, r⟩ hi => by
    have hv : i < vs.length := by rw [r.length]; exact hi
    exact ⟨vs, vs[i], hs, List.getElem?_eq_getElem hv⟩
  stop := fun F π H i ⟨_, vs, hs, r⟩ hi => ⟨vs, hs, by rw [r.length]; exact Nat.le_of_eq hi.symm⟩
  one := fun _ F π H i x H' u ⟨_, vs, hs, r⟩ hy hu => by
    obtain ⟨e, q⟩ := hy
    obtain ⟨v, hv, rv⟩ := r.get hu
    have := q vs hs
    rw [hv] at this
    cases this
    exact ⟨e, rv⟩
  two := fun h => by cases h
theorem sl_keeps {K : PySem.W.Frag} {a : Addr} {u : U} {xs : List U} {M0 : Mem} (hx : walk M0 .seq [u] = some xs) (hs : ∀ x, rdv M0 u ≠ some (.str x)) (ht : ∀ x, rdv M0 u ≠ some (.tuple x)) : Keeps (SL K a u xs) M0 [u] := by
  intro F π H F' π' H' M' ⟨ru, vs, hq, r⟩ p m st
  have ru' := ru.mono p
  refine ⟨ru', ?_⟩
  cases u with
  | p d =>
    cases d with
    | list ds =>
      cases ru with
      | p ru =>
        cases ru with
        | lst f h q =>
          have e : xs = ds.map .p := by
            simp only [walk, vals, rdv, val, walkD, iterD, Option.bind_some, Option.map_some, Option.some.injEq] at hx
            exact hx.symm
          subst e
          exact ⟨_, .inl (.inl (p.le.rds _ _ f h nt_lst)), rpus_p (q.mono p.le)⟩
    | str x => exact absurd rfl (hs x)
    | tuple x => exact absurd rfl (ht x)
    | _ => cases ru with
      | p ru => cases ru
  | scr ds =>
    cases ru with
    | scr h q =>
      have e : xs = ds.map .p := by
        simp only [walk, vals, rdv, val, walkD, iterD, Option.bind_some, Option.map_some, Option.some.injEq] at hx
        exact hx.symm
      subst e
      exact ⟨_, scr_sq (p.le.scr h), rpus_p (q.mono p.le)⟩
  | rl ns =>
    cases ru with
    | rl f h q =>
      cases hx
      exact ⟨_, .inl (.inl (p.le.rds _ _ f h nt_lst)), rpus_ref (q.mono p.pre)⟩
  | ref n =>
    cases ru with
    | ref hn =>
      simp only [stands] at st
      split at st
      · rename_i xs0 ys e1 e2
        have e3 := sames_eq _ _ st
        subst e3
        have e : xs = xs0.map .p := by
          simp only [walk, vals, rdv, val, e1, walkD, iterD, Option.bind_some, Option.map_some, Option.some.injEq] at hx
          exact hx.symm
        subst e
        obtain ⟨vs', h1, h2⟩ := m.cell n _ _ e2 (p.pre _ _ hn)
        exact ⟨vs', .inl (.inl h1), rpus_p h2⟩
      · cases st
def STp (K : PySem.W.Frag) (a : Addr) (ds : List D) : (Addr → Prop) → List Addr → Hp → Prop := fun F _ H => RpD F H (.ref a) (.tuple ds)
theorem stp_sq {K : PySem.W.Frag} {a : Addr} {ds : List D} (h : STp K a ds F π H) : ∃ vs, SqT K H a vs ∧ RpDs F H vs ds := by
  cases h with
  | tup h e r => exact ⟨_, .inl (.inr ⟨_, h⟩), r⟩
theorem src_tup {K : PySem.W.Frag} {a : Addr} {ds : List D} : Src (Itt K a) (ds.map .p) false (STp K a ds) where
  go := fun F π H i h hi => by
    obtain ⟨vs, hs, r⟩ := stp_sq (π := π) h
    have hv : i < vs.length := by rw [r.length]; rw [List.length_map] at hi; exact hi
    exact ⟨vs, vs[i], hs, List.getElem?_eq_getElem hv⟩
  stop := fun F π H i h hi => by
    obtain ⟨vs, hs, r⟩ := stp_sq (π := π) h
    exact ⟨vs, hs, by rw [r.length]; rw [List.length_map] at hi; exact Nat.le_of_eq hi.symm⟩
  one := fun _ F π H i x H' u h hy hu => by
    obtain ⟨vs, hs, r⟩ := stp_sq (π := π) h
    obtain ⟨e, q⟩ := hy
    obtain ⟨v, hv, rv⟩ := (rpus_p (π := π) r).get hu
    have := q vs hs
    rw [hv] at this
    cases this
    exact ⟨e, rv⟩
  two := fun h => by cases h
theorem stp_keeps {K : PySem.W.Frag} {a : Addr} {ds : List D} {M0 : Mem} {us : List U} : Keeps (STp K a ds) M0 us := fun F π H F' π' H' M' h p m st => RpD.mono p.le h
def SAll : (Addr → Prop) → List Addr → Hp → Prop := fun _ _ _ => True
theorem all_keeps {M0 : Mem} {us : List U} : Keeps SAll M0 us := fun _ _ _ _ _ _ _ _ _ _ _ => trivial
theorem src_str {x : Str} : Src (Its x) ((signs x).map .p) false SAll where
  go := fun F π H i _ hi => by
    simp only [signs, List.length_map] at hi
    exact hi
  stop := fun F π H i _ hi => by
    simp only [signs, List.length_map] at hi
    exact Nat.le_of_eq hi.symm
  one := fun _ F π H i v H' u _ hy hu => by
    obtain ⟨e, c, hc, rfl⟩ := hy
    refine ⟨e, ?_⟩
    simp only [signs, List.map_map, List.getElem?_map] at hu
    have hc' : x.cps.toList[i]? = some c := by rw [Array.getElem?_toList]; exact hc
    rw [hc'] at hu
    cases hu
    exact .p (.str _)
  two := fun h => by cases h
theorem src_range {lo : Int} {n : Nat} : Src (Itr lo n) ((up lo n).map .p) false SAll where
  go := fun F π H i _ hi => by
    simp only [up, List.length_map, List.length_range] at hi
    exact hi
  stop := fun F π H i _ hi => by
    simp only [up, List.length_map, List.length_range] at hi
    exact Nat.le_of_eq hi.symm
  one := fun _ F π H i v H' u _ hy hu => by
    obtain ⟨e, rfl⟩ := hy
    refine ⟨e, ?_⟩
    simp only [up, List.map_map, List.getElem?_map] at hu
    have hi : i < n := by
      cases q : (List.range n)[i]? with
      | none => rw [q] at hu; cases hu
      | some j => have := (List.getElem?_eq_some_iff.mp q).1; simpa using this
    rw [List.getElem?_range hi] at hu
    cases hu
    exact .p (.int _)
  two := fun h => by cases h
theorem pairUp_get : ∀ {ds : List D} {n i : Nat} {u : U}, ((pairUp n ds).map U.p)[i]? = some u → ∃ d, ds[i]? = some d ∧ u = .p (.tuple [.int ((n + i : Nat) : Int), d])
  | [], n, i, u, h => by simp [pairUp] at h
  | d :: ds, n, 0, u, h => by
    simp only [pairUp, List.map_cons, List.getElem?_cons_zero] at h
    cases h
    exact ⟨d, rfl, rfl⟩
  | d :: ds, n, i + 1, u, h => by
    simp only [pairUp, List.map_cons, List.getElem?_cons_succ] at h
    obtain ⟨e, h1, h2⟩ := pairUp_get h
    exact ⟨e, by simpa using h1, by rw [h2, show n + 1 + i = n + (i + 1) by omega]⟩
theorem pairUp_len : ∀ (ds : List D) (n : Nat), (pairUp n ds).length = ds.length
  | [], _ => rfl
  | _ :: ds, n => by rw [pairUp, List.length_cons, List.length_cons, pairUp_len ds]
theorem rpus_of_p : ∀ {vs : List V} {ds : List D}, RpUs F π H vs (ds.map .p) → RpDs F H vs ds
  | _, [], .nil => .nil
  | _, _ :: _, .cons (.p r) t => .cons r (rpus_of_p t)
theorem src_enumL {K : PySem.W.Frag} {a : Addr} {u : U} {ds : List D} : Src (Ite K a) ((pairUp 0 ds).map .p) true (SL K a u (ds.map .p)) where
  go := fun F π H i ⟨_, vs, hs, r⟩ hi => by
    have hv : i < vs.length := by rw [r.length]; rw [List.length_map, pairUp_len] at hi; rw [List.length_map]; exact hi
    exact ⟨vs, vs[i], hs, List.getElem?_eq_getElem hv⟩
  stop := fun F π H i ⟨_, vs, hs, r⟩ hi => ⟨vs, hs, by rw [r.length]; rw [List.length_map, pairUp_len] at hi; rw [List.length_map]; exact Nat.le_of_eq hi.symm⟩
  one := fun h => by cases h
  two := fun _ F π H i x H' u ⟨_, vs, hs, r⟩ hy hu => by
    obtain ⟨T, v, e1, e2, e3, q⟩ := hy
    obtain ⟨d, hd, eu⟩ := pairUp_get hu
    rw [Nat.zero_add] at eu
    obtain ⟨v', hv, rv⟩ := (rpus_of_p r).get hd
    have := q vs hs
    rw [hv] at this
    cases this
    exact ⟨T, v, d, e1, e2, e3, eu, rv⟩
end
section
variable {G : St0} {ca : Str → Addr} {X : Cx} {sc : Scope} {fc : Str → Bool} {k : Nat} {Φ : Fn} {E : XK} {pos : Pos}
theorem walk_seq' {M : Mem} {u : U} {xs : List U} (h : ((vals M [u]).bind (walkD .seq)).map (·.map U.p) = some xs) : ∃ d ds, rdv M u = some d ∧ iterD d = some ds ∧ xs = ds.map .p := by
  simp only [vals] at h
  cases e0 : rdv M u with
  | none => rw [e0] at h; cases h
  | some d =>
    rw [e0] at h
    change (iterD d).map (·.map U.p) = some xs at h
    cases e : iterD d with
    | none => rw [e] at h; cases h
    | some ds => rw [e] at h; cases h; exact ⟨d, ds, rfl, e, rfl⟩
theorem walk_seq {M : Mem} {u : U} {xs : List U} (h : walk M .seq [u] = some xs) : (∃ ns, u = .rl ns ∧ xs = ns.map .ref) ∨ (∃ d ds, rdv M u = some d ∧ iterD d = some ds ∧ xs = ds.map .p) := by
  cases u with
  | rl ns => cases h; exact .inl ⟨ns, rfl, rfl⟩
  | p d => exact .inr (walk_seq' h)
  | scr es => exact .inr (walk_seq' h)
  | ref n => exact .inr (walk_seq' h)
theorem l_seq {tg e : Expr} {c : CE} (he : PE X e (tE ca Φ E c)) : PI X tg e (tI ca Φ E .seq (.cons c .nil)) := by
  refine PI.imp (PI.or (pi_list he) (PI.or (pi_tup he) (pi_str he))) fun σ H R ⟨F, π, ρ, M, hr, hm, h⟩ => ?_
  simp only [evL] at h
  have h' := h.bind
  cases ee : evE Φ c ρ M with
  | exc c M1 =>
    rw [ee] at h'
    exact .inl ⟨F, π, ρ, M, hr, hm, by rw [ee]; exact h'⟩
  | bad => rw [ee] at h'; exact False.elim h'
  | ok u M1 =>
    rw [ee] at h'
    obtain ⟨xs, hx, z⟩ := h'
    rcases walk_seq hx with ⟨ns, rfl, rfl⟩ | ⟨d, ds, hd, hi, rfl⟩
    · refine .inl ⟨F, π, ρ, M, hr, hm, ?_⟩
      rw [ee]
      intro v F1 π1 H1 p1 m1 r1
      cases r1 with
      | rl f hl q => exact ⟨_, rfl, ⟨_, .inl (.inl hl)⟩, z F1 π1 H1 p1 m1 _ (SL X.K _ (.rl ns) (ns.map .ref)) src_list ⟨.rl f hl q, _, .inl (.inl hl), rpus_ref q⟩ (sl_keeps hx (fun x e => by cases e) (fun x e => by cases e))⟩
    · cases d with
      | list es =>
        cases hi
        refine .inl ⟨F, π, ρ, M, hr, hm, ?_⟩
        rw [ee]
        intro v F1 π1 H1 p1 m1 r1
        obtain ⟨a, vs, rfl, hq, rv⟩ := rdv_lst (K := X.K) m1 r1 hd
        exact ⟨a, rfl, ⟨_, hq⟩, z F1 π1 H1 p1 m1 _ (SL X.K a u (ds.map .p)) src_list ⟨r1, _, hq, rpus_p rv⟩ (sl_keeps hx (fun x e => by rw [hd] at e; cases e) (fun x e => by rw [hd] at e; cases e))⟩
      | tuple es =>
        cases hi
        refine .inr (.inl ⟨F, π, ρ, M, hr, hm, ?_⟩)
        rw [ee]
        intro v F1 π1 H1 p1 m1 r1
        have rd : ∃ a, v = .ref a ∧ RpD F1 H1 (.ref a) (.tuple ds) := by
          cases u with
          | p d' =>
            cases hd
            cases r1 with
            | p r => cases r with
              | tup h1 h2 h3 => exact ⟨_, rfl, .tup h1 h2 h3⟩
          | scr _ => cases hd
          | rl _ => cases hd
          | ref n =>
            simp only [rdv, val] at hd
            split at hd <;> cases hd
        obtain ⟨a, rfl, rd⟩ := rd
        obtain ⟨vs, hs, _⟩ := stp_sq (K := X.K) (π := π1) rd
        exact ⟨a, rfl, ⟨_, hs⟩, z F1 π1 H1 p1 m1 _ (STp X.K a ds) src_tup rd stp_keeps⟩
      | str x =>
        cases hi
        refine .inr (.inr ⟨F, π, ρ, M, hr, hm, ?_⟩)
        rw [ee]
        intro v F1 π1 H1 p1 m1 r1
        cases rdv_dp (K := X.K) m1 r1 hd
        exact ⟨x, rfl, z F1 π1 H1 p1 m1 _ SAll src_str trivial all_keeps⟩
      | _ => cases hi
theorem small62_of {i : Int} (h : small62 i = true) : -(2 ^ 62) ≤ i ∧ i < 2 ^ 62 := by
  simp only [small62, Bool.and_eq_true, decide_eq_true_eq] at h
  exact h
theorem l_range1 (g : Good G ca X sc fc k Φ E) {tg e : Expr} {cs : CEs} {p : Pos} (hp : plainE e = true) (hg : glB sc "range" = true) (hf : ("range" : Str) ∈ G.free) (ha : PA X [e] (tL ca Φ E cs)) : PI X tg (.Call (.Name "range" p) [e] [] pos) (tI ca Φ E .range1 cs) := by
  refine PI.imp (pi_range1 (g.gl hg) (g.free _ hf) ha (star_plain hp _ _)) fun σ H R ⟨F, π, ρ, M, hr, hm, h⟩ => ?_
  refine ⟨F, π, ρ, M, hr, hm, h.imp fun us M1 ⟨xs, hx, z⟩ => ?_⟩
  intro vs F1 π1 H1 p1 m1 r1
  simp only [walk] at hx
  cases ev : vals M1 us with
  | none => rw [ev] at hx; cases hx
  | some ds =>
    rw [ev] at hx
    match ds, hx with
    | [.int j], hx =>
      simp only [Option.bind_some, walkD] at hx
      split at hx
      · rename_i hs
        cases hx
        obtain ⟨v, u, rfl, rfl, ru, hd⟩ := args1 r1 ev
        cases rdv_dp (K := X.K) m1 ru hd
        obtain ⟨h1, h2⟩ := small62_of hs
        exact ⟨j, rfl, h1, h2, z F1 π1 H1 p1 m1 _ SAll src_range trivial all_keeps⟩
      · cases hx
theorem l_range2 (g : Good G ca X sc fc k Φ E) {tg e e2 : Expr} {cs : CEs} {p : Pos} (hp : plainE e = true) (hp2 : plainE e2 = true) (hg : glB sc "range" = true) (hf : ("range" : Str) ∈ G.free) (ha : PA X [e, e2] (tL ca Φ E cs)) : PI X tg (.Call (.Name "range" p) [e, e2] [] pos) (tI ca Φ E .range2 cs) := by
  refine PI.imp (pi_range2 (g.gl hg) (g.free _ hf) ha (by rw [star_plain hp, star_plain hp2]; rfl) (star_plain hp2 _ _)) fun σ H R ⟨F, π, ρ, M, hr, hm, h⟩ => ?_
  refine ⟨F, π, ρ, M, hr, hm, h.imp fun us M1 ⟨xs, hx, z⟩ => ?_⟩
  intro vs F1 π1 H1 p1 m1 r1
  simp only [walk] at hx
  cases ev : vals M1 us with
  | none => rw [ev] at hx; cases hx
  | some ds =>
    rw [ev] at hx
    match ds, hx with
    | [.int i, .int j], hx =>
      simp only [Option.bind_some, walkD] at hx
      split at hx
      · rename_i hs
        cases hx
        rw [Bool.and_eq_true] at hs
        obtain ⟨v, w, u, x, rfl, rfl, ru, hd, rx, he⟩ := args2 r1 ev
        cases rdv_dp (K := X.K) m1 ru hd
        cases rdv_dp (K := X.K) m1 rx he
        obtain ⟨h1, h2⟩ := small62_of hs.1
        obtain ⟨h3, h4⟩ := small62_of hs.2
        exact ⟨i, j, rfl, ⟨h1, h2, h3, h4⟩, z F1 π1 H1 p1 m1 _ SAll src_range trivial all_keeps⟩
      · cases hx
end
end VW
end
section
set_option maxHeartbeats 1000000
/-! Comprehensions. -/
namespace VW
open PySem PySem.Spec L2
section
variable {F F1 : Addr → Prop} {π π1 : List Addr} {H H1 : Hp} {M : Mem}
/-- a list of our own, tracked, of no name, not frozen: it may be written -/
theorem Le.priv {D : Addr} {vs : List V} {o : HO} (h : H D = some (.lst vs)) (hf : ¬ F D) : Le F H F (upd H D o) :=
  ⟨fun _ z => z, fun a u f e _ => by rw [upd_ne (fun z => hf (by rw [← z]; exact f))]; exact e, fun a ob u e => (by rw [upd_ne (fun z => by rw [z, h] at e; cases e)]; exact e), fun a P e => (by rw [upd_ne (fun z => by rw [z, h] at e; cases e)]; exact e)⟩
theorem Post.priv {D : Addr} {vs : List V} {o : HO} (p : Post F π H F1 π1 H1) (h0 : H D = none) (h : H1 D = some (.lst vs)) (hf : ¬ F1 D) : Post F π H F1 π1 (upd H1 D o) :=
  ⟨p.le.trans (Le.priv h hf), p.pre, fun a u e hn ht => by rw [upd_ne (fun z => by rw [z, h0] at e; cases e)]; exact p.keep a u e hn ht,
    fun a u e t => by rw [upd_ne (fun z => by rw [z, h0] at e; cases e)]; exact p.there a u e t, p.newF, p.newP⟩
theorem MemR.priv {D : Addr} {vs : List V} {o : HO} (m : MemR F π H M) (h : H D = some (.lst vs)) (hf : ¬ F D) (hn : D ∉ π) : MemR F π (upd H D o) M :=
  ⟨m.len, m.nd, m.nf, fun a f => by rw [upd_ne (fun z => hf (by rw [← z]; exact f))]; exact m.ft a f, m.tb, fun n c a hc ha => (m.cell n c a hc ha).mono (Le.priv h hf) (fun _ _ z => z) (by rw [upd_ne (fun z => hn (by rw [← z]; exact List.mem_of_getElem? ha))])⟩
theorem RpU.le (l : Le F H F1 H1) {v : V} {u : U} (r : RpU F π H v u) : RpU F1 π H1 v u := by
  cases r with
  | p r => exact .p (r.mono l)
  | ref h => exact .ref h
  | rl f h r => exact .rl (l.sub _ f) (l.rds _ _ f h nt_lst) r
  | scr h r => exact .scr (l.scr h) (r.mono l)
theorem RpUs.le (l : Le F H F1 H1) : ∀ {vs : List V} {us : List U}, RpUs F π H vs us → RpUs F1 π H1 vs us
  | _, _, .nil => .nil
  | _, _, .cons r t => .cons (r.le l) (RpUs.le l t)
theorem RpUs.snoc {v : V} {u : U} (r : RpU F π H v u) : ∀ {vs : List V} {us : List U}, RpUs F π H vs us → RpUs F π H (vs ++ [v]) (us ++ [u])
  | _, _, .nil => .cons r .nil
  | _, _, .cons q t => .cons q (RpUs.snoc r t)
theorem wipe_none (σ : St) : ∀ {vs : List Nat} {i : Nat}, i ∈ vs → i < σ.length → (wipe σ vs)[i]? = some none
  | v :: vs, i, h, hl => by
    unfold wipe
    by_cases e : v = i
    · subst e
      rw [List.getElem?_set_self (by rw [wipe_length]; exact hl)]
    · rw [List.getElem?_set_ne e]
      rcases List.mem_cons.mp h with z | z
      · exact absurd z.symm e
      · exact wipe_none σ z hl
theorem wipeE_length (ρ : Env) : ∀ vs : List Nat, (wipeE ρ vs).length = ρ.length
  | [] => rfl
  | v :: vs => by unfold wipeE; rw [List.length_set, wipeE_length ρ vs]
theorem wipeE_some {ρ : Env} {i : Nat} {x : U} : ∀ {vs : List Nat}, (wipeE ρ vs)[i]? = some (some x) → ρ[i]? = some (some x) ∧ i ∉ vs
  | [], h => ⟨h, by simp⟩
  | v :: vs, h => by
    unfold wipeE at h
    by_cases hi : v = i
    · subst hi
      by_cases hv : v < (wipeE ρ vs).length
      · rw [List.getElem?_set_self hv] at h; cases h
      · rw [List.getElem?_eq_none (by simpa using hv)] at h; cases h
    · rw [List.getElem?_set_ne hi] at h
      obtain ⟨h1, h2⟩ := wipeE_some h
      exact ⟨h1, by simp only [List.mem_cons, not_or]; exact ⟨fun e => hi e.symm, h2⟩⟩
theorem EnvR.wipe {ρ : Env} {σ : St} (r : EnvR F π H ρ σ) (vs : List Nat) : EnvR F π H (wipeE ρ vs) (L2.wipe σ vs) :=
  ⟨by rw [wipeE_length, wipe_length]; exact r.len, fun i u h => by
    obtain ⟨h1, h2⟩ := wipeE_some h
    obtain ⟨v, e, q⟩ := r.get i u h1
    exact ⟨v, by rw [wipe_out h2]; exact e, q⟩⟩
theorem wipe_ext {σ σ1 : St} : ∀ {vs : List Nat}, σ1.length = σ.length → (∀ n : Nat, n ∉ vs → σ1[n]? = σ[n]?) → L2.wipe σ1 vs = L2.wipe σ vs := fun {vs} hl h => by
  apply List.ext_getElem?
  intro n
  by_cases hn : n ∈ vs
  · by_cases hlt : n < σ.length
    · rw [wipe_none σ hn hlt, wipe_none σ1 hn (by omega)]
    · rw [List.getElem?_eq_none (by rw [wipe_length]; omega), List.getElem?_eq_none (by rw [wipe_length]; omega)]
  · rw [wipe_out hn, wipe_out hn, h n hn]
theorem wipe_wipe {σ σ1 : St} {vs is : List Nat} (c : Chg is (L2.wipe σ vs) σ1) (hs : ∀ i ∈ is, i ∈ vs) : L2.wipe σ1 vs = L2.wipe σ vs := by
  have h1 : L2.wipe σ1 vs = L2.wipe (L2.wipe σ vs) vs := wipe_ext c.len fun n hn => c.out n fun z => hn (hs n z)
  have h2 : L2.wipe (L2.wipe σ vs) vs = L2.wipe σ vs := wipe_ext (wipe_length σ vs) fun n hn => wipe_out hn
  rw [h1, h2]
end
section
variable {G : St0} {ca : Str → Addr} {X : Cx} {sc : Scope} {fc : Str → Bool} {k : Nat} {Φ : Fn} {E : XK} {pos : Pos}
theorem passN {X : Cx} : Passes (L2N.CX X.prog X.w) X E0 := fun _ _ _ _ _ _ _ ⟨_, _, _, _, _, _, _, _, _, _, _, _, z⟩ => z.elim
/-- which names of a block are cells; none is called # -/
def blkF (scope : Scope) : Str → Bool := fun x => !(x == ("#" : Str)) && (scope.names.lookup x == some .cell)
theorem Good.blk (g : Good G ca X sc fc k Φ E) (s : Shared) (H : Hp) (scope : Scope) (C : Addr) (cl : List (Str × Addr)) (fp : List Addr) :
    Good G ca (X.blk s H scope (compEnvC scope cl C X.env) fp) (relS scope sc) (blkF scope) k Φ E0 := by
  refine ⟨g.calm, g.nd, ?_, fun x h => ((Bool.and_eq_true _ _).mp h).2, g.room, passN, g.free, g.glob, g.fns⟩
  show relS scope X.env.scope = relS scope sc
  rw [g.scope]
/-- what one turn of a comprehension does -/
def lcTurn (Φ : Fn) (g : Tg) (own : List Nat) (cs : CEs) (elt : CE) (us : List U) (ρ : Env) (M : Mem) : U → Mem → R (Option U) := fun x M1 => match put g x (wipeE ρ own) with
  | some ρ1 => if stands M M1 us then (evB Φ true cs ρ1 M1).calm.bind fun t M2 => match t with
    | .p (.bool true) => (evE Φ elt ρ1 M2).calm.bind fun y M3 => .ok (some y) M3
    | .p (.bool false) => .ok none M2
    | _ => .bad else .bad
  | none => .bad
theorem gather_cons {f : U → Mem → R (Option U)} {x : U} {xs acc : List U} {M : Mem} : gather f (x :: xs) acc M = (f x M).bind fun o M1 => match o with
    | some y => if acc.length < sizeLine then gather f xs (acc ++ [y]) M1 else .bad
    | none => gather f xs acc M1 := rfl
theorem lc_key {g : Tg} {own : List Nat} {it : IT} {src cs : CEs} {elt : CE} (hown : ∀ i ∈ g.is, i ∈ own) (hpr : it.pr = true → ∃ is, g = .tp is) {σ : St} {H : Hp} {Q : VK} (h : tS ca Φ E (.lc g own it src cs elt) σ H Q) :
    tLc (tI ca Φ E it src) (gT X.K g) (tBs ca Φ E0 true cs) (tE ca Φ E0 elt) own σ H Q := by
  obtain ⟨F, π, ρ, M, hr, hm, h⟩ := h
  simp only [evE] at h
  refine ⟨F, π, ρ, M, hr, hm, h.bind.imp fun us M1 h1 => ?_⟩
  split at h1
  · rename_i xs hx
    refine ⟨xs, hx, fun F1 π1 H1 p1 m1 J S hS s1 kS D hD => ?_⟩
    have h1 : Out ca E F1 π1 H1 ((gather (lcTurn Φ g own cs elt us ρ M1) xs [] M1).bind fun ys M2 => if stands M1 M2 us then .of (mkL ys) M2 else .bad) (SQ F π H Q) := h1.move p1
    refine ⟨fun i m H' => m = xs.length - i ∧ i ≤ xs.length ∧ ∃ F' π' M' vs ys, Post F1 π1 H1 F' π' H' ∧ MemR F' π' H' M' ∧ H' D = some (.lst vs) ∧ ¬ F' D ∧ D ∉ π' ∧ RpUs F' π' H' vs ys ∧ ys.length ≤ i ∧
        Out ca E F1 π1 H1 ((gather (lcTurn Φ g own cs elt us ρ M1) (xs.drop i) ys M').bind fun ys M2 => if stands M1 M2 us then .of (mkL ys) M2 else .bad) (SQ F π H Q),
      ⟨xs.length, by simp, Nat.zero_le _, F1, π1, M1, [], [], Post.laid hD, m1.laid hD, upd_same, (m1.fresh hD).1, (m1.fresh hD).2, .nil, Nat.le_refl _, h1⟩, ?_⟩
    rintro i m H' ⟨rfl, hi, F', π', M', vs, ys, p, mr, hv, hf, hn, ry, hyl, out⟩
    have sS : stands M1 M' us = true → S F' π' H' := fun st => kS F1 π1 H1 F' π' H' M' s1 p mr st
    by_cases hlt : i < xs.length
    · rw [List.drop_eq_getElem_cons hlt, gather_cons] at out
      have hu : xs[i]? = some xs[i] := List.getElem?_eq_getElem hlt
      generalize hxi : xs[i] = u at out hu
      have out1 : Out ca E F1 π1 H1 (lcTurn Φ g own cs elt us ρ M1 u M') (fun o M2 => Out ca E F1 π1 H1 ((match o with
          | some y => if ys.length < sizeLine then gather (lcTurn Φ g own cs elt us ρ M1) (xs.drop (i + 1)) (ys ++ [y]) M2 else .bad
          | none => gather (lcTurn Φ g own cs elt us ρ M1) (xs.drop (i + 1)) ys M2).bind fun ys M2 => if stands M1 M2 us then .of (mkL ys) M2 else .bad) (SQ F π H Q)) := by
        cases e : lcTurn Φ g own cs elt us ρ M1 u M' with
        | ok o M2 => rw [e] at out; exact out
        | exc c M2 => rw [e] at out; exact out
        | bad => rw [e] at out; exact out
      unfold lcTurn at out1
      cases ep : put g u (wipeE ρ own) with
      | none => rw [ep] at out1; exact False.elim out1
      | some ρ1 =>
        simp only [ep] at out1
        split at out1
        · rename_i st
          have s' : S F' π' H' := sS st
          refine .inr ⟨hS.go F' π' H' i s' hlt, fun H2 => ∃ F2 π2 M2 vs2 ys2, Post F1 π1 H1 F2 π2 H2 ∧ MemR F2 π2 H2 M2 ∧ H2 D = some (.lst vs2) ∧ ¬ F2 D ∧ D ∉ π2 ∧ RpUs F2 π2 H2 vs2 ys2 ∧ ys2.length ≤ i + 1 ∧
            Out ca E F1 π1 H1 ((gather (lcTurn Φ g own cs elt us ρ M1) (xs.drop (i + 1)) ys2 M2).bind fun ys M2 => if stands M1 M2 us then .of (mkL ys) M2 else .bad) (SQ F π H Q), fun H2 nx => ⟨xs.length - (i + 1), by omega, rfl, hlt, nx⟩, fun x H2 hy => ?_⟩
          -- the item is given to the target
          have tgt : ∀ Z : St → Hp → Prop, (∀ σ1 H3, Post F' π' H' F' π' H3 → MemR F' π' H3 M' → H3 D = some (.lst vs) → EnvR F' π' H3 ρ1 σ1 → L2.wipe σ1 own = L2.wipe σ own → Z σ1 H3) → gT X.K g x (L2.wipe σ own) H2 Z := fun Z hZ => by
            have re : EnvR F' π' H' (wipeE ρ own) (L2.wipe σ own) := ((hr.mono p1).mono p).wipe own
            cases hp : it.pr with
            | false =>
              obtain ⟨e, ru⟩ := hS.one hp F' π' H' i x H2 u s' hy hu
              subst e
              exact gT_ok re ru ep fun σ1 e1 c1 => hZ σ1 _ Post.refl mr hv e1 (wipe_wipe c1 hown)
            | true =>
              obtain ⟨T, v, d, ex, hT, e, eu, rv⟩ := hS.two hp F' π' H' i x H2 u s' hy hu
              subst ex e eu
              have pl := Post.laid (F := F') (π := π') (o := .tup [.int (i : Nat), v]) hT
              refine gT_pair (re.mono pl) upd_same (.int _) (rv.mono pl.le) ep (hpr hp) fun σ1 e1 c1 => hZ σ1 _ pl (mr.laid hT) ?_ e1 (wipe_wipe c1 hown)
              rw [upd_ne (ne_of_none hv hT)]
              exact hv
          refine tgt _ fun σ1 H3 p3 m3 hv3 e3 w3 => ⟨w3, ?_⟩
          have p13 : Post F1 π1 H1 F' π' H3 := p.trans p3
          -- the tests
          refine ⟨F', π', ρ1, M', e3, m3, (Out.calm (E' := E0) out1.bind).imp fun t M4 h4 => ?_⟩
          split at h4
          · refine ⟨true, rfl, fun F4 π4 H4 p4 m4 => iteT ?_⟩
            have hD4 : H4 D = some (.lst vs) := p4.keep D _ hv3 hn fun _ z => by cases z
            have hf4 : ¬ F4 D := fun z => (p4.newF D z).elim hf fun z => z.no hv3 nt_lst
            have hn4 : D ∉ π4 := fun z => (p4.newP D z).elim hn fun z => z.no hv3 nt_lst
            refine ⟨F4, π4, ρ1, M4, e3.mono p4, m4, (Out.calm (E' := E0) h4.bind).imp fun y M5 h5 => ?_⟩
            intro vy F5 π5 H5 p5 m5 ry5
            have hD5 : H5 D = some (.lst vs) := p5.keep D _ hD4 hn4 fun _ z => by cases z
            have hf5 : ¬ F5 D := fun z => (p5.newF D z).elim hf4 fun z => z.no hD4 nt_lst
            have hn5 : D ∉ π5 := fun z => (p5.newP D z).elim hn4 fun z => z.no hD4 nt_lst
            have q15 : Post F1 π1 H1 F5 π5 H5 := (p13.trans p4).trans p5
            have lp : Le F5 H5 F5 (upd H5 D (.lst (vs ++ [vy]))) := Le.priv hD5 hf5
            have ry' : RpUs F5 π5 H5 vs ys := ((ry.mono p3).mono p4).mono p5
            have h5 : Out ca E F1 π1 H1 ((if ys.length < sizeLine then gather (lcTurn Φ g own cs elt us ρ M1) (xs.drop (i + 1)) (ys ++ [y]) M5 else .bad).bind fun ys M2 => if stands M1 M2 us then .of (mkL ys) M2 else .bad) (SQ F π H Q) := h5
            split at h5
            · rename_i hlen
              exact ⟨vs, hD5, by rw [ry'.length]; exact hlen, F5, π5, M5, vs ++ [vy], ys ++ [y], q15.priv hD hD5 hf5, m5.priv hD5 hf5 hn5, upd_same, hf5, hn5, (ry'.snoc ry5).le lp, by rw [List.length_append]; simp only [List.length_cons, List.length_nil]; omega, h5⟩
            · exact False.elim h5
          · refine ⟨false, rfl, fun F4 π4 H4 p4 m4 => iteF ?_⟩
            have hD4 : H4 D = some (.lst vs) := p4.keep D _ hv3 hn fun _ z => by cases z
            have hf4 : ¬ F4 D := fun z => (p4.newF D z).elim hf fun z => z.no hv3 nt_lst
            have hn4 : D ∉ π4 := fun z => (p4.newP D z).elim hn fun z => z.no hv3 nt_lst
            exact ⟨F4, π4, M4, vs, ys, p13.trans p4, m4, hD4, hf4, hn4, (ry.mono p3).mono p4, by omega, h4⟩
          · exact False.elim h4
        · exact False.elim out1
    · have hix : i = xs.length := by omega
      have out : Out ca E F1 π1 H1 ((gather (lcTurn Φ g own cs elt us ρ M1) (xs.drop i) ys M').bind fun ys M2 => if stands M1 M2 us then .of (mkL ys) M2 else .bad) (SQ F π H Q) := out
      rw [List.drop_eq_nil_of_le (by omega)] at out
      have out : Out ca E F1 π1 H1 (if stands M1 M' us then .of (mkL ys) M' else .bad) (SQ F π H Q) := out
      split at out
      · rename_i st
        obtain ⟨u, hu, q⟩ := out.of
        obtain ⟨i1, i2⟩ := mkL_rp ry hu
        refine .inl ⟨hS.stop F' π' H' i (sS st) (by omega), ?_⟩
        exact (q.move p1).2 i1 D vs F' π' H' p mr (.of hD) hf hn hv i2
      · exact False.elim out
  · exact False.elim h1
/-- a comprehension, as a value -/
theorem l_lc (gd : Good G ca X sc fc k Φ E) {g : Tg} {own : List Nat} {it : IT} {src cs : CEs} {elt : CE} {tg iter e : Expr} {ifs : List Expr} {scope : Scope} {ownP : List (Str × Nat)} (ho : own = ownP.map (·.2)) (hown : ∀ i ∈ g.is, i ∈ own) (hpr : it.pr = true → ∃ is, g = .tp is)
    (hb : blkC X.N sc scope ownP = true) (hi : PI X tg iter (tI ca Φ E it src))
    (hg : ∀ (s : Shared) (H : Hp) (C : Addr) (cl : List (Str × Addr)) (fp : List Addr), PG (X.blk s H scope (compEnvC scope cl C X.env) fp) tg (gT X.K g))
    (ht : ∀ (s : Shared) (H : Hp) (C : Addr) (cl : List (Str × Addr)) (fp : List Addr), PTs (X.blk s H scope (compEnvC scope cl C X.env) fp) ifs (tBs ca Φ E0 true cs))
    (he : ∀ (s : Shared) (H : Hp) (C : Addr) (cl : List (Str × Addr)) (fp : List Addr), PE (X.blk s H scope (compEnvC scope cl C X.env) fp) e (tE ca Φ E0 elt)) (hs : ∀ x, foldedSetIterable iter X.env x = pure x) :
    PE X (.ListComp e [⟨tg, iter, ifs, 0⟩] scope pos) (tS ca Φ E (.lc g own it src cs elt)) := by
  subst ho
  exact PE.imp (pe_lc gd.calm gd.nd hi (by rw [gd.scope]; exact blkOk_by hb) hg ht he hs) fun σ H Q h => lc_key hown hpr h
end
end VW
end
section
set_option maxHeartbeats 1000000
/-! Statements. -/
namespace VW
open PySem PySem.Spec L2
section
variable (ca : Str → Addr) (E : XK)
def OutS (F : Addr → Prop) (π : List Addr) (H : Hp) (D : Ends) : SR → Prop
  | .next ρ' M' => ∀ σ' F' π' H', Post F π H F' π' H' → MemR F' π' H' M' → EnvR F' π' H' ρ' σ' → D.nx σ' H'
  | .ret u M' => ∀ v F' π' H', Post F π H F' π' H' → MemR F' π' H' M' → RpU F' π' H' v u → D.rt v H'
  | .exc c M' => ∀ F' π' H', Post F π H F' π' H' → MemR F' π' H' M' → E (.ref (ca c)) none H'
  | .bad => False
def tSt (Φ : Fn) (s : CS) : TS := fun D σ H => ∃ F π ρ M, EnvR F π H ρ σ ∧ MemR F π H M ∧ OutS ca E F π H D (exS Φ s ρ M)
def tSs (Φ : Fn) (s : CSs) : TS := fun D σ H => ∃ F π ρ M, EnvR F π H ρ σ ∧ MemR F π H M ∧ OutS ca E F π H D (exL Φ s ρ M)
end
theorem PS.imp {X : Cx} {e : Stmt} {t t' : TS} (h : PS X e t) (i : ∀ D σ H, t' D σ H → t D σ H) : PS X e t' := ⟨fun pins s σ H D I q => h.run pins s σ H D I (i D σ H q)⟩
theorem PSs.imp {X : Cx} {e : List Stmt} {t t' : TS} (h : PSs X e t) (i : ∀ D σ H, t' D σ H → t D σ H) : PSs X e t' := ⟨fun pins s σ H D I q => h.run pins s σ H D I (i D σ H q)⟩
section
variable {ca : Str → Addr} {E : XK} {F F1 : Addr → Prop} {π π1 : List Addr} {H H1 : Hp} {D : Ends} {α : Type}
theorem OutS.thn {r : R α} {f : α → Mem → SR} (h : OutS ca E F π H D (r.thn f)) : Out ca E F π H r (fun a M => OutS ca E F π H D (f a M)) := by
  cases r with
  | ok a M => exact h
  | exc c M => exact h
  | bad => exact h
theorem OutS.move {r : SR} (p : Post F π H F1 π1 H1) (h : OutS ca E F π H D r) : OutS ca E F1 π1 H1 D r := by
  cases r with
  | next ρ M => exact fun σ' F' π' H' q m e => h σ' F' π' H' (p.trans q) m e
  | ret u M => exact fun v F' π' H' q m e => h v F' π' H' (p.trans q) m e
  | exc c M => exact fun F' π' H' q m => h F' π' H' (p.trans q) m
  | bad => exact h
theorem OutS.bind {r : SR} {f : Env → Mem → SR} {D' : Ends} (h : OutS ca E F π H D (r.bind f)) (hr : ∀ v H', D.rt v H' → D'.rt v H') (hn : ∀ ρ M σ' F' π' H', r = .next ρ M → Post F π H F' π' H' → MemR F' π' H' M → EnvR F' π' H' ρ σ' → OutS ca E F' π' H' D (f ρ M) → D'.nx σ' H') : OutS ca E F π H D' r := by
  cases r with
  | next ρ M => exact fun σ' F' π' H' q m e => hn ρ M σ' F' π' H' rfl q m e (OutS.move q h)
  | ret u M => exact fun v F' π' H' q m e => hr _ _ (h v F' π' H' q m e)
  | exc c M => exact h
  | bad => exact h
end
/-- an exception of the program -/
structure ExcK (K : PySem.W.Frag) (mg : Str → Option Value) (x : Str) (C : Addr) : Prop where
  q : PySem.W.excIn K C He.veBase "ValueError.__new__" = true
  g : mg x = some (.ref C)
  k : PySem.W.keepIn K (.ref C) = true
  b : PySem.W.subIn K (.ref C) (.type "BaseException") = some true
  t : PySem.W.typeIn K (.ref C) = some (.type "type")
/-- a def's body -/
structure GoodS (G : St0) (ca : Str → Addr) (X : Cx) (sc : Scope) (k : Nat) (Φ : Fn) (E : XK) : Prop where
  good : Good G ca X sc (fun _ => true) k Φ E
  tk : L2N.Takes X (fun cls d _ H => E cls d H)
  po : PassesOwn (model X.prog X.w) X.A X.env X.xe
  kind : sc.kind = .function
  excs : ∀ x ∈ G.excs, ExcK X.K X.mg x (ca x)
/-- assignments of tuples to names: what the compiler does -/
def starB : Expr → Bool
  | .Starred .. => true
  | _ => false
def nmAt (look : Str → Option NameKind) (line : Nat) : Expr → Option Str
  | .Name id pos => if look id == some .local && pos.line == line then some id else none
  | _ => none
def swRow (fn : Bool) (look : Str → Option NameKind) (ts vs : List Expr) : Option (Option (List Str)) :=
  if !(ts.length == 2 || ts.length == 3) || vs.length != ts.length || fn then some none
  else if vs.any starB then some none
  else if (ts.filterMap (nmAt look ((ts.head?.map (·.pos.line)).getD 0))).length != ts.length || (ts.filterMap (nmAt look ((ts.head?.map (·.pos.line)).getD 0))).eraseDups.length != (ts.filterMap (nmAt look ((ts.head?.map (·.pos.line)).getD 0))).length then some none
  else if vs.all (foldedForSure 8) then some none
  else if vs.all (constantsAlone 8) then none
  else some (some (ts.filterMap (nmAt look ((ts.head?.map (·.pos.line)).getD 0))))
theorem sw_row {ts vs : List Expr} {k k2 : Nat} {p p2 : Pos} {env : PySem.Env} {o : Option (List Str)} (h : swRow (env.blockKind != .function) env.kindOf ts vs = some o) : swappedStores [.Tuple ts k p] (.Tuple vs k2 p2) env = pure o := by
  have e : swappedStores [.Tuple ts k p] (.Tuple vs k2 p2) env = (if !(ts.length == 2 || ts.length == 3) || vs.length != ts.length || env.blockKind != .function then pure none
    else if vs.any starB then pure none
    else if (ts.filterMap (nmAt env.kindOf ((ts.head?.map (·.pos.line)).getD 0))).length != ts.length || (ts.filterMap (nmAt env.kindOf ((ts.head?.map (·.pos.line)).getD 0))).eraseDups.length != (ts.filterMap (nmAt env.kindOf ((ts.head?.map (·.pos.line)).getD 0))).length then pure none
    else if vs.all (foldedForSure 8) then pure none
    else if vs.all (constantsAlone 8) then (do let _ ← (unsupported "assign.tuple-of-constant-expressions:order-of-the-stores" : Sem PUnit); pure (some (ts.filterMap (nmAt env.kindOf ((ts.head?.map (·.pos.line)).getD 0)))))
    else pure (some (ts.filterMap (nmAt env.kindOf ((ts.head?.map (·.pos.line)).getD 0))))) := rfl
  rw [e]
  unfold swRow at h
  repeat' (split at h)
  all_goals first
    | (cases h; done)
    | (cases h; simp only [*, if_true, if_false, Bool.false_eq_true, not_false_eq_true, not_true_eq_false, if_neg, if_pos]; done)
    | (cases h; simp [*]; done)
def swM (sc : Scope) (tg e : Expr) : Option (Option (List Str)) := match tg, e with
  | .Tuple ts _ _, .Tuple vs _ _ => swRow false (fun x => sc.names.lookup x) ts vs
  | .Tuple _ _ _, _ => some none
  | .Name _ _, _ => some none
  | .Subscript _ _ _, _ => some none
  | .Attribute _ _ _, _ => some none
  | _, _ => none
theorem swM_ok {sc : Scope} {env : PySem.Env} {tg e : Expr} {o : Option (List Str)} (he : env.scope = sc) (hk : sc.kind = .function) (h : swM sc tg e = some o) : swappedStores [tg] e env = pure o := by
  have hb : (env.blockKind != .function) = false := by unfold Env.blockKind; rw [he, hk]; rfl
  have hkk : env.kindOf = fun x => sc.names.lookup x := funext fun x => by unfold Env.kindOf; rw [he]
  cases tg with
  | Tuple ts _ _ =>
    cases e with
    | Tuple vs _ _ => exact sw_row (by rw [hb, hkk]; exact h)
    | _ => cases h; rfl
  | Name _ _ => cases e <;> (cases h; rfl)
  | Subscript _ _ _ => cases e <;> (cases h; rfl)
  | Attribute _ _ _ => cases e <;> (cases h; rfl)
  | _ => cases e <;> cases h
def compB : Expr → Bool
  | .ListComp .. => true
  | .SetComp .. => true
  | .DictComp .. => true
  | _ => false
theorem sw_plain {e : Expr} (h : compB e = false) (t : Option Expr) (l : Nat) (env : PySem.Env) : swapsWith e t l env = pure false := by
  cases e <;> first | rfl | cases h
/-- name = [..]: whether the store goes into the comprehension -/
def lcB (sc : Scope) (y : Str) (py pos : Pos) (scope : Scope) : Bool := sc.names.lookup y == some .local && py.line == pos.line && !(scope.names.any fun (n, k) => n == y && (k == .local || k == .cell))
theorem sw_lc {elt : Expr} {gs : List Comprehension} {scope sc : Scope} {pos py : Pos} {y : Str} {l : Nat} {env : PySem.Env} (he : env.scope = sc) (hk : sc.kind = .function) : swapsWith (.ListComp elt gs scope pos) (some (.Name y py)) l env = pure (lcB sc y py pos scope) := by
  have hb : env.blockKind = .function := by unfold Env.blockKind; rw [he, hk]; rfl
  have e : swapsWith (.ListComp elt gs scope pos) (some (.Name y py)) l env = pure (env.blockKind == .function && env.kindOf y == some .local && py.line == pos.line && !(scope.names.any fun (n, k) => n == y && (k == .local || k == .cell))) := rfl
  rw [e, hb]
  unfold lcB Env.kindOf
  rw [he]
  rfl
section
variable {G : St0} {ca : Str → Addr} {X : Cx} {sc : Scope} {k : Nat} {Φ : Fn} {E : XK} {pos : Pos}
theorem l_snil : PSs X [] (tSs ca E Φ .nil) := PSs.imp pss_nil fun D σ H ⟨F, π, ρ, M, hr, hm, h⟩ => h σ F π H Post.refl hm hr
theorem l_scons {st : Stmt} {rest : List Stmt} {s : CS} {r : CSs} (h1 : PS X st (tSt ca E Φ s)) (h2 : PSs X rest (tSs ca E Φ r)) : PSs X (st :: rest) (tSs ca E Φ (.cons s r)) := by
  refine PSs.imp (pss_cons h1 h2) fun D σ H ⟨F, π, ρ, M, hr, hm, h⟩ => ?_
  simp only [exL] at h
  exact ⟨F, π, ρ, M, hr, hm, h.bind (fun _ _ z => z) fun ρ1 M1 σ1 F1 π1 H1 _ p m e z => ⟨F1, π1, ρ1, M1, e, m, z⟩⟩
def asgB : Expr → Bool
  | .Name _ _ => true
  | .Tuple _ _ _ => true
  | _ => false
theorem asg_each {tg : Expr} (h : asgB tg = true) (env : PySem.Env) : (assignEach [tg] env).map (·.2) = [assign tg env] := by
  cases tg <;> first | rfl | cases h
theorem tAsg_ok {tg : Tg} {c : CE} {D : Ends} {σ : St} {H : Hp} (h : tSt ca E Φ (.asg tg c) D σ H) : tAsg (tE ca Φ E c) (gT X.K tg) D σ H := by
  obtain ⟨F, π, ρ, M, hr, hm, h⟩ := h
  simp only [exS] at h
  refine ⟨F, π, ρ, M, hr, hm, h.thn.imp fun u M1 h1 => ?_⟩
  intro v F1 π1 H1 p1 m1 r1
  cases ep : put tg u ρ with
  | none => rw [ep] at h1; exact False.elim h1
  | some ρ1 =>
    rw [ep] at h1
    exact gT_ok (hr.mono p1) r1 ep fun σ1 e1 _ => h1 σ1 F1 π1 H1 p1 m1 e1
theorem l_asg (gs : GoodS G ca X sc k Φ E) {t : Tg} {tg e : Expr} {c : CE} (hg : chkG X.N sc (fun _ => true) t tg = true) (ha : asgB tg = true) (hs : swapsWithSole [tg] e pos.line X.env = pure false) (hw : swM sc tg e = some none) (he : PE X e (tE ca Φ E c)) : PS X (.Assign [tg] e pos) (tSt ca E Φ (.asg t c)) :=
  PS.imp (ps_asg he (pg_tg gs.good hg) hs (swM_ok gs.good.scope gs.kind hw) (asg_each ha _)) fun D σ H h => tAsg_ok h
theorem tPar_ok {i j : Nat} {a b : CE} {D : Ends} {σ : St} {H : Hp} (h : tSt ca E Φ (.par i j a b) D σ H) : tPar i j (tL ca Φ E (.cons a (.cons b .nil))) D σ H := by
  obtain ⟨F, π, ρ, M, hr, hm, h⟩ := h
  simp only [exS] at h
  refine ⟨F, π, ρ, M, hr, hm, ?_⟩
  simp only [evL]
  cases e1 : evE Φ a ρ M with
  | exc c M1 => rw [e1] at h; exact h
  | bad => rw [e1] at h; exact h
  | ok x M1 =>
    rw [e1] at h
    simp only [R.thn] at h
    simp only [R.bind]
    cases e2 : evE Φ b ρ M1 with
    | exc c M2 => rw [e2] at h; exact h
    | bad => rw [e2] at h; exact h
    | ok y M2 =>
      rw [e2] at h
      intro vs F1 π1 H1 p1 m1 r1
      cases r1 with
      | cons r1 t =>
        cases t with
        | cons r2 t =>
          cases t
          exact ⟨_, _, rfl, h _ F1 π1 H1 p1 m1 (((hr.mono p1).set r1).set r2)⟩
theorem l_par (gs : GoodS G ca X sc k Φ E) {i j : Nat} {x y : Str} {a b : Expr} {c1 c2 : CE} {px py pt pt2 : Pos} {kt k2 : Nat} (hi : X.N[i]? = some x) (hj : X.N[j]? = some y) (hij : i ≠ j) (hx : sc.names.lookup x = some .local) (hy : sc.names.lookup y = some .local)
    (hw : swM sc (.Tuple [.Name x px, .Name y py] kt pt) (.Tuple [a, b] k2 pt2) = some (some [x, y])) (ha : PA X [a, b] (tL ca Φ E (.cons c1 (.cons c2 .nil)))) :
    PS X (.Assign [.Tuple [.Name x px, .Name y py] kt pt] (.Tuple [a, b] k2 pt2) pos) (tSt ca E Φ (.par i j c1 c2)) :=
  PS.imp (ps_par gs.good.calm gs.good.nd hi hj hij (by rw [gs.good.scope]; exact hx) (by rw [gs.good.scope]; exact hy) ha (swM_ok gs.good.scope gs.kind hw)) fun D σ H h => tPar_ok h
theorem l_ret {e : Expr} {c : CE} (he : PE X e (tE ca Φ E c)) : PS X (.Return (some e) pos) (tSt ca E Φ (.ret c)) := by
  refine PS.imp (ps_ret he) fun D σ H ⟨F, π, ρ, M, hr, hm, h⟩ => ?_
  simp only [exS] at h
  exact ⟨F, π, ρ, M, hr, hm, h.thn.imp fun u M1 h1 => h1⟩
theorem l_exp {e : Expr} {c : CE} (hc : compB e = false) (he : PE X e (tE ca Φ E c)) : PS X (.Expr e pos) (tSt ca E Φ (.exp c)) := by
  refine PS.imp (ps_expr he (sw_plain hc _ _ _)) fun D σ H ⟨F, π, ρ, M, hr, hm, h⟩ => ?_
  simp only [exS] at h
  exact ⟨F, π, ρ, M, hr, hm, h.thn.imp fun u M1 h1 v F1 π1 H1 p1 m1 r1 => h1 σ F1 π1 H1 p1 m1 (hr.mono p1)⟩
theorem l_iff {t : Expr} {a b : List Stmt} {c : CE} {sa sb : CSs} (ht : PT X t (tT ca Φ E c)) (ha : PSs X a (tSs ca E Φ sa)) (hb : PSs X b (tSs ca E Φ sb)) : PS X (.If t a b pos) (tSt ca E Φ (.iff c sa sb)) := by
  refine PS.imp (ps_if ht ha hb) fun D σ H ⟨F, π, ρ, M, hr, hm, h⟩ => ?_
  simp only [exS] at h
  refine ⟨F, π, ρ, M, hr, hm, h.thn.imp fun u M1 h1 => ?_⟩
  split at h1
  · exact ⟨true, rfl, fun F1 π1 H1 p1 m1 => iteT ⟨F1, π1, ρ, M1, hr.mono p1, m1, h1.move p1⟩⟩
  · exact ⟨false, rfl, fun F1 π1 H1 p1 m1 => iteF ⟨F1, π1, ρ, M1, hr.mono p1, m1, h1.move p1⟩⟩
  · exact False.elim h1
theorem l_whl (gs : GoodS G ca X sc k Φ E) {t : Expr} {b : List Stmt} {c : CE} {sb : CSs} (ht : PT X t (tT ca Φ E c)) (hb : PSs X b (tSs ca E Φ sb)) : PS X (.While t b [] pos) (tSt ca E Φ (.whl c sb)) := by
  refine PS.imp (ps_while gs.po ht hb) fun D σ H ⟨F, π, ρ, M, hr, hm, h⟩ => ?_
  simp only [exS] at h
  refine ⟨fun m σ' H' => ∃ F' π' ρ' M', EnvR F' π' H' ρ' σ' ∧ MemR F' π' H' M' ∧ OutS ca E F' π' H' D (whileF (evE Φ c) (exL Φ sb) m ρ' M'), ⟨1000000, F, π, ρ, M, hr, hm, h⟩, ?_⟩
  rintro m σ' H' ⟨F', π', ρ', M', hr', hm', h'⟩
  cases m with
  | zero => exact False.elim h'
  | succ m =>
    simp only [whileF] at h'
    refine ⟨F', π', ρ', M', hr', hm', h'.thn.imp fun u M1 h1 => ?_⟩
    split at h1
    · refine ⟨true, rfl, fun F1 π1 H1 p1 m1 => ?_⟩
      refine iteT ⟨fun σ2 H2 => ∃ F' π' ρ' M', EnvR F' π' H2 ρ' σ2 ∧ MemR F' π' H2 M' ∧ OutS ca E F' π' H2 D (whileF (evE Φ c) (exL Φ sb) m ρ' M'), fun σ2 H2 z => ⟨m, Nat.lt_succ_self _, z⟩, ?_⟩
      refine ⟨F1, π1, ρ', M1, hr'.mono p1, m1, (h1.move p1).bind (fun _ _ z => z) fun ρ2 M2 σ2 F2 π2 H2 _ p m e z => ⟨F2, π2, ρ2, M2, e, m, z⟩⟩
    · exact ⟨false, rfl, fun F1 π1 H1 p1 m1 => iteF (h1 σ' F1 π1 H1 p1 m1 (hr'.mono p1))⟩
    · exact False.elim h1
theorem for_key {tg : Tg} {it : IT} {src : CEs} {b : CSs} (hpr : it.pr = true → ∃ is, tg = .tp is) {D : Ends} {σ : St} {H : Hp} (h : tSt ca E Φ (.for_ tg it src b) D σ H) : tFor (tI ca Φ E it src) (gT X.K tg) (tSs ca E Φ b) D σ H := by
  obtain ⟨F, π, ρ, M, hr, hm, h⟩ := h
  simp only [exS] at h
  refine ⟨F, π, ρ, M, hr, hm, h.thn.imp fun us M1 h1 => ?_⟩
  split at h1
  · rename_i xs hx
    refine ⟨xs, hx, fun F1 π1 H1 p1 m1 J S hS s1 kS => ?_⟩
    refine ⟨fun i m σ' H' => m = xs.length - i ∧ i ≤ xs.length ∧ ∃ F' π' ρ' M', Post F1 π1 H1 F' π' H' ∧ EnvR F' π' H' ρ' σ' ∧ MemR F' π' H' M' ∧ OutS ca E F' π' H' D (forF (fun M2 => stands M1 M2 us) tg (exL Φ b) (xs.drop i) ρ' M'),
      ⟨xs.length, by simp, Nat.zero_le _, F1, π1, ρ, M1, Post.refl, hr.mono p1, m1, h1.move p1⟩, ?_⟩
    rintro i m σ' H' ⟨rfl, hi, F', π', ρ', M', p, hr', mr, out⟩
    by_cases hlt : i < xs.length
    · rw [List.drop_eq_getElem_cons hlt] at out
      have hu : xs[i]? = some xs[i] := List.getElem?_eq_getElem hlt
      generalize hxi : xs[i] = u at out hu
      simp only [forF] at out
      split at out
      · rename_i st
        have s' : S F' π' H' := kS F1 π1 H1 F' π' H' M' s1 p mr st
        cases ep : put tg u ρ' with
        | none => rw [ep] at out; exact False.elim out
        | some ρ1 =>
          simp only [ep] at out
          refine .inr ⟨hS.go F' π' H' i s' hlt, fun σ2 H2 => ∃ F2 π2 ρ2 M2, Post F1 π1 H1 F2 π2 H2 ∧ EnvR F2 π2 H2 ρ2 σ2 ∧ MemR F2 π2 H2 M2 ∧ OutS ca E F2 π2 H2 D (forF (fun M2 => stands M1 M2 us) tg (exL Φ b) (xs.drop (i + 1)) ρ2 M2), fun σ2 H2 nx => ⟨xs.length - (i + 1), by omega, rfl, hlt, nx⟩, fun x H2 hy => ?_⟩
          have tgt : ∀ Z : St → Hp → Prop, (∀ σ1 H3, Post F' π' H' F' π' H3 → MemR F' π' H3 M' → EnvR F' π' H3 ρ1 σ1 → Z σ1 H3) → gT X.K tg x σ' H2 Z := fun Z hZ => by
            cases hp : it.pr with
            | false =>
              obtain ⟨e, ru⟩ := hS.one hp F' π' H' i x H2 u s' hy hu
              subst e
              exact gT_ok hr' ru ep fun σ1 e1 c1 => hZ σ1 _ Post.refl mr e1
            | true =>
              obtain ⟨T, v, d, ex, hT, e, eu, rv⟩ := hS.two hp F' π' H' i x H2 u s' hy hu
              subst ex e eu
              have pl := Post.laid (F := F') (π := π') (o := .tup [.int (i : Nat), v]) hT
              exact gT_pair (hr'.mono pl) upd_same (.int _) (rv.mono pl.le) ep (hpr hp) fun σ1 e1 c1 => hZ σ1 _ pl (mr.laid hT) e1
          refine tgt _ fun σ1 H3 p3 m3 e3 => ?_
          refine ⟨F', π', ρ1, M', e3, m3, (out.move p3).bind (fun _ _ z => z) fun ρ2 M2 σ2 F2 π2 H2 _ p2 m2 e2 z => ⟨F2, π2, ρ2, M2, (p.trans p3).trans p2, e2, m2, z⟩⟩
      · exact False.elim out
    · have hix : i = xs.length := by omega
      rw [List.drop_eq_nil_of_le (by omega)] at out
      simp only [forF] at out
      split at out
      · rename_i st
        exact .inl ⟨hS.stop F' π' H' i (kS F1 π1 H1 F' π' H' M' s1 p mr st) (by omega), out σ' F' π' H' Post.refl mr hr'⟩
      · exact False.elim out
  · exact False.elim h1
theorem l_for (gs : GoodS G ca X sc k Φ E) {t : Tg} {it : IT} {src : CEs} {sb : CSs} {tg iter : Expr} {b : List Stmt} (hg : chkG X.N sc (fun _ => true) t tg = true) (hpr : it.pr = true → ∃ is, t = .tp is) (hi : PI X tg iter (tI ca Φ E it src)) (hb : PSs X b (tSs ca E Φ sb))
    (hs : ∀ x, foldedSetIterable iter X.env x = pure x) : PS X (.For tg iter b [] pos) (tSt ca E Φ (.for_ t it src sb)) :=
  PS.imp (ps_for gs.po gs.good.calm hi (pg_tg gs.good hg) hb hs) fun D σ H h => for_key hpr h
/-- a new list gets a name of its own -/
theorem tNew_ok {i : Nat} {c : CE} {D : Ends} {σ : St} {H : Hp} (h : tSt ca E Φ (.new i c) D σ H) : tAsg (tS ca Φ E c) (gName i) D σ H := by
  obtain ⟨F, π, ρ, M, hr, hm, h⟩ := h
  simp only [exS] at h
  refine ⟨F, π, ρ, M, hr, hm, h.thn.imp fun u M1 h1 => ?_⟩
  split at h1
  · rename_i xs
    refine ⟨fun e => (by cases e), fun _ a vs F1 π1 H1 p1 m1 ho hf hn hv r => ?_⟩
    have q := p1.named ho
    have m2 : MemR F1 (π1 ++ [a]) H1 (M1 ++ [.pl xs]) := m1.named hn hf (fun _ _ z => by cases z) ⟨vs, hv, r⟩
    refine h1 _ F1 (π1 ++ [a]) H1 q m2 ((hr.mono q).set (.ref ?_))
    rw [← m1.len, List.getElem?_append_right (Nat.le_refl _), Nat.sub_self]
    rfl
  · exact False.elim h1
theorem l_new (gs : GoodS G ca X sc k Φ E) {i : Nat} {tg e : Expr} {c : CE} (hg : chkNm X.N sc (fun _ => true) i tg = true) (ha : asgB tg = true) (hs : swapsWithSole [tg] e pos.line X.env = pure false) (hw : swM sc tg e = some none) (he : PE X e (tS ca Φ E c)) : PS X (.Assign [tg] e pos) (tSt ca E Φ (.new i c)) :=
  PS.imp (ps_asg he (pg_nm gs.good hg) hs (swM_ok gs.good.scope gs.kind hw) (asg_each ha _)) fun D σ H h => tNew_ok h
theorem MemR.isLst {F : Addr → Prop} {π : List Addr} {H : Hp} {M : Mem} (m : MemR F π H M) {n : Nat} {a : Addr} (h : π[n]? = some a) (hc : isLstC M[n]? = true) : ∃ vs, H a = some (.lst vs) := by
  cases e : M[n]? with
  | none => rw [e] at hc; cases hc
  | some c =>
    rw [e] at hc
    have q := m.cell n c a e h
    cases c with
    | pl _ => exact q.elim fun vs z => ⟨vs, z.1⟩
    | rl _ => exact q.elim fun vs z => ⟨vs, z.1⟩
    | _ => cases hc
/-- o.append(e) -/
theorem l_app {o e : Expr} {c1 c2 : CE} {apos cpos : Pos} (hb : attributeBase o "append" X.env (eval o X.env) = eval o X.env) (hl : (apos.endLine == cpos.line) = true) (hp : plainE e = true) (ho : PE X o (tE ca Φ E c1)) (he : PE X e (tE ca Φ E c2)) :
    PS X (.Expr (.Call (.Attribute o "append" apos) [e] [] cpos) pos) (tSt ca E Φ (.app c1 c2)) := by
  have hs := star_plain hp [] X.env
  refine PS.imp (ps_expr (pe_bm PySem.F.plainAttrs_list PySem.F.slot_list_append PySem.F.type_list_append mt_append ho (pa_cons he pa_nil hs) hb (by rw [hs]; rfl) hl hs rfl) rfl) fun D σ H ⟨F, π, ρ, M, hr, hm, h⟩ => ?_
  simp only [exS] at h
  refine ⟨F, π, ρ, M, hr, hm, h.thn.imp fun x M1 h1 => ?_⟩
  intro v1 F1 π1 H1 p1 m1 r1
  split at h1
  · rename_i n
    split at h1
    · rename_i hc
      cases r1 with
      | ref hn =>
        rename_i a
        obtain ⟨vs0, e0⟩ := m1.isLst hn hc
        refine ⟨.inl ⟨rfl, vs0, .inl (.inl e0)⟩, F1, π1, ρ, M1, hr.mono p1, m1, (h1.move p1).thn.imp fun y M2 h2 => ?_⟩
        intro v2 F2 π2 H2 p2 m2 r2
        have hn2 := p2.pre _ _ hn
        cases ec : appC M2[n]? y with
        | none => rw [ec] at h2; exact False.elim h2
        | some c =>
          rw [ec] at h2
          have key : ∀ vs, H2 a = some (.lst vs) → CellR F2 π2 (upd H2 a (.lst (vs ++ [v2]))) a c → vs.length < sizeLine → rAppend (.ref a) [v2] H2 (fun _ H' => D.nx σ H') := fun vs hv hcell hl =>
            ⟨a, vs, v2, rfl, rfl, hv, hl, h2 σ F2 π2 _ (p2.trans (Post.wrote m2 hn2)) (m2.wrote hn2 hcell) (((hr.mono p1).mono p2).mono (Post.wrote m2 hn2))⟩
          cases em : M2[n]? with
          | none => rw [em] at ec; cases ec
          | some c0 =>
            rw [em] at ec
            have hcell := m2.cell n c0 a em hn2
            cases c0 with
            | pl ds =>
              obtain ⟨vs, hv, rd⟩ := hcell
              cases y with
              | p d =>
                simp only [appC] at ec
                split at ec
                · rename_i hl
                  cases ec
                  cases r2 with
                  | p r2 =>
                    have le := (Post.wrote (vs := vs ++ [v2]) m2 hn2).le
                    exact key vs hv ⟨_, upd_same, (rd.append (.cons r2 .nil)).mono le⟩ (by rw [rd.length]; exact hl)
                · cases ec
              | ref q =>
                cases ds with
                | nil =>
                  cases ec
                  cases rd
                  cases r2 with
                  | ref r2 => exact key [] hv ⟨_, upd_same, .cons r2 .nil⟩ (by rw [sizeLine_eq]; decide)
                | cons _ _ => cases ec
              | _ => cases ec
            | rl ns =>
              obtain ⟨vs, hv, rd⟩ := hcell
              cases y with
              | ref q =>
                simp only [appC] at ec
                split at ec
                · rename_i hl
                  cases ec
                  cases r2 with
                  | ref r2 => exact key vs hv ⟨_, upd_same, rd.append (.cons r2 .nil)⟩ (by rw [rd.length]; exact hl)
                · cases ec
              | _ => cases ec
            | _ => cases y <;> cases ec
    · exact False.elim h1
  · exact False.elim h1
/-- o[i] = e -/
def subB : Expr → Bool
  | .Slice _ _ _ _ => false
  | _ => true
theorem l_sti (gs : GoodS G ca X sc k Φ E) {o i e : Expr} {c1 c2 c3 : CE} {spos : Pos} (hs : compB e = false) (hp : plainE i = true) (ho : PE X o (tE ca Φ E c1)) (hi : PE X i (tE ca Φ E c2)) (he : PE X e (tE ca Φ E c3)) : PS X (.Assign [.Subscript o i spos] e pos) (tSt ca E Φ (.sti c1 c2 c3)) := by
  refine PS.imp (ps_asg he (pg_sub ho hi set_list (fun v => by cases i <;> first | rfl | cases hp)) (show swapsWithSole [Expr.Subscript o i spos] e pos.line X.env = pure false from sw_plain hs (some (.Subscript o i spos)) pos.line X.env) (swM_ok gs.good.scope gs.kind (by cases e <;> rfl)) rfl) fun D σ H ⟨F, π, ρ, M, hr, hm, h⟩ => ?_
  simp only [exS] at h
  refine ⟨F, π, ρ, M, hr, hm, h.thn.imp fun y M1 h1 => ?_⟩
  intro v1 F1 π1 H1 p1 m1 r1
  refine ⟨F1, π1, ρ, M1, hr.mono p1, m1, (h1.move p1).thn.imp fun x M2 h2 => ?_⟩
  intro v2 F2 π2 H2 p2 m2 r2
  refine ⟨F2, π2, ρ, M2, (hr.mono p1).mono p2, m2, (h2.move p2).thn.imp fun z M3 h3 => ?_⟩
  intro v3 F3 π3 H3 p3 m3 r3
  split at h3
  · rename_i n
    cases r2 with
    | ref hn =>
      rename_i a
      have hn3 := p3.pre _ _ hn
      cases em : M3[n]? with
      | none => rw [em] at h3; exact False.elim h3
      | some c0 =>
        rw [em] at h3
        have hcell := m3.cell n c0 a em hn3
        cases c0 with
        | pl ds =>
          obtain ⟨vs, hv, rd⟩ := hcell
          cases z with
          | p dz =>
            cases dz with
            | int j =>
              cases y with
              | p dy =>
                cases ej : L2.ixN ds.length j with
                | none => simp only [stiC, ej] at h3; exact False.elim h3
                | some jj =>
                  simp only [stiC, ej] at h3
                  cases r3 with
                  | p r3 =>
                    cases r3
                    have ry := (r1.mono p2).mono p3
                    cases ry with
                    | p ry =>
                      have w := Post.wrote (vs := vs.set jj v1) m3 hn3
                      exact ⟨a, vs, j, jj, rfl, rfl, hv, by rw [rd.length]; exact ej, h3 σ F3 π3 _ (p3.trans w) (m3.wrote hn3 ⟨_, upd_same, (rd.set ry jj).mono w.le⟩) ((((hr.mono p1).mono p2).mono p3).mono w)⟩
              | _ => exact False.elim h3
            | _ => exact False.elim h3
          | _ => exact False.elim h3
        | _ => exact False.elim h3
  · exact False.elim h3
/-- name = [..], the store within -/
theorem l_asgLc (gs : GoodS G ca X sc k Φ E) {g : Tg} {own : List Nat} {it : IT} {src cs : CEs} {elt : CE} {i : Nat} {y : Str} {py spos : Pos} {tg iter e : Expr} {ifs : List Expr} {scope : Scope} {ownP : List (Str × Nat)} (ho : own = ownP.map (·.2)) (hown : ∀ i ∈ g.is, i ∈ own) (hpr : it.pr = true → ∃ is, g = .tp is)
    (hy : X.N[i]? = some y) (hl : lcB sc y py pos scope = true) (hb : blkC X.N sc scope ownP = true) (hi : PI X tg iter (tI ca Φ E it src))
    (hg : ∀ (s : Shared) (H : Hp) (C : Addr) (cl : List (Str × Addr)) (fp : List Addr), PG (X.blk s H scope (compEnvC scope cl C X.env) fp) tg (gT X.K g))
    (ht : ∀ (s : Shared) (H : Hp) (C : Addr) (cl : List (Str × Addr)) (fp : List Addr), PTs (X.blk s H scope (compEnvC scope cl C X.env) fp) ifs (tBs ca Φ E0 true cs))
    (he : ∀ (s : Shared) (H : Hp) (C : Addr) (cl : List (Str × Addr)) (fp : List Addr), PE (X.blk s H scope (compEnvC scope cl C X.env) fp) e (tE ca Φ E0 elt)) (hs : ∀ x, foldedSetIterable iter X.env x = pure x) :
    PS X (.Assign [.Name y py] (.ListComp e [⟨tg, iter, ifs, 0⟩] scope pos) spos) (tSt ca E Φ (.asg (.nm i) (.lc g own it src cs elt))) ∧ PS X (.Assign [.Name y py] (.ListComp e [⟨tg, iter, ifs, 0⟩] scope pos) spos) (tSt ca E Φ (.new i (.lc g own it src cs elt))) := by
  subst ho
  have hyl : X.env.scope.names.lookup y = some .local := by
    rw [gs.good.scope]
    unfold lcB at hl
    simp only [Bool.and_eq_true, beq_iff_eq] at hl
    exact hl.1.1
  have P := ps_setLc (spos := spos) gs.good.calm gs.good.nd hy hyl (by rw [sw_lc gs.good.scope gs.kind, hl]) hi (by rw [gs.good.scope]; exact blkOk_by hb) hg ht he hs
  refine ⟨PS.imp P fun D σ H h => ?_, PS.imp P fun D σ H h => ?_⟩
  · refine lc_key hown hpr ?_
    obtain ⟨F, π, ρ, M, hr, hm, z⟩ := tAsg_ok (X := X) h
    exact ⟨F, π, ρ, M, hr, hm, z.imp fun u M1 w => w.strong⟩
  · exact lc_key hown hpr (tNew_ok h)
theorem tPar3_ok {i j l : Nat} {a b c : CE} {D : Ends} {σ : St} {H : Hp} (h : tSt ca E Φ (.par3 i j l a b c) D σ H) :
    tL ca Φ E (.cons a (.cons b (.cons c .nil))) σ H (fun vs H1 => ∃ u v w, vs = [u, v, w] ∧ D.nx (((σ.set i (some u)).set j (some v)).set l (some w)) H1) := by
  obtain ⟨F, π, ρ, M, hr, hm, h⟩ := h
  simp only [exS] at h
  refine ⟨F, π, ρ, M, hr, hm, ?_⟩
  simp only [evL]
  cases e1 : evE Φ a ρ M with
  | exc c M1 => rw [e1] at h; exact h
  | bad => rw [e1] at h; exact h
  | ok x M1 =>
    rw [e1] at h
    simp only [R.thn] at h
    simp only [R.bind]
    cases e2 : evE Φ b ρ M1 with
    | exc c M2 => rw [e2] at h; exact h
    | bad => rw [e2] at h; exact h
    | ok y M2 =>
      rw [e2] at h
      simp only at h ⊢
      cases e3 : evE Φ c ρ M2 with
      | exc c M2 => rw [e3] at h; exact h
      | bad => rw [e3] at h; exact h
      | ok z M3 =>
        rw [e3] at h
        intro vs F1 π1 H1 p1 m1 r1
        cases r1 with
        | cons r1 t =>
          cases t with
          | cons r2 t =>
            cases t with
            | cons r3 t =>
              cases t
              exact ⟨_, _, _, rfl, h _ F1 π1 H1 p1 m1 ((((hr.mono p1).set r1).set r2).set r3)⟩
theorem l_par3 (gs : GoodS G ca X sc k Φ E) {i j l : Nat} {x y z : Str} {a b c : Expr} {c1 c2 c3 : CE} {px py pz pt pt2 : Pos} {kt k2 : Nat} (hi : X.N[i]? = some x) (hj : X.N[j]? = some y) (hl : X.N[l]? = some z) (hij : i ≠ j) (hil : i ≠ l) (hjl : j ≠ l)
    (hx : sc.names.lookup x = some .local) (hy : sc.names.lookup y = some .local) (hz : sc.names.lookup z = some .local)
    (hw : swM sc (.Tuple [.Name x px, .Name y py, .Name z pz] kt pt) (.Tuple [a, b, c] k2 pt2) = some (some [x, y, z])) (ha : PA X [a, b, c] (tL ca Φ E (.cons c1 (.cons c2 (.cons c3 .nil))))) :
    PS X (.Assign [.Tuple [.Name x px, .Name y py, .Name z pz] kt pt] (.Tuple [a, b, c] k2 pt2) pos) (tSt ca E Φ (.par3 i j l c1 c2 c3)) :=
  PS.imp (ps_par3 gs.good.calm gs.good.nd hi hj hl hij hil hjl (by rw [gs.good.scope]; exact hx) (by rw [gs.good.scope]; exact hy) (by rw [gs.good.scope]; exact hz) ha (swM_ok gs.good.scope gs.kind hw)) fun D σ H h => tPar3_ok h
end
section
variable {G : St0} {ca : Str → Addr} {X : Cx} {sc : Scope} {k : Nat} {Φ : Fn} {E : XK} {pos : Pos}
theorem l_rai (gs : GoodS G ca X sc k Φ E) {x m : Str} {j : Nat} {p p2 p3 : Pos} (ex : ExcK X.K X.mg x (ca x)) (hg : glB sc x = true) (ho : okName x = true) : PS X (.Raise (some (.Call (.Name x p) [.Constant (.str m) j p2] [] p3)) none pos) (tSt ca E Φ (.rai x)) := by
  refine PS.imp (L2N.ps_raise gs.good.calm gs.tk (L2N.pmk_own PySem.F.excBase_ValueError ex.q ex.g ex.k (raises_own ex.b ex.t) (gs.good.gl hg) (okName_of ho).1)) fun D σ H ⟨F, π, ρ, M, hr, hm, h⟩ => ?_
  exact h F π H Post.refl hm
end
end VW
end
section
set_option maxHeartbeats 2000000
/-! The look at a program's text, and that it suffices: expressions. -/
namespace VW
open PySem PySem.Spec L2
def litB : D → Const → Bool
  | .none, .none => true
  | .bool a, .bool b => a == b
  | .int a, .int b => a == b
  | .str a, .str b => a == b
  | _, _ => false
def ownP (N : List Str) (own : List Nat) : List (Str × Nat) := own.filterMap fun i => N[i]?.map fun x => (x, i)
/-- built-in functions (true) and types (false), by name -/
def prName : Pr → Option (Str × Bool × String)
  | .len => some ("len", true, "len")
  | .abs => some ("abs", true, "abs")
  | .sum => some ("sum", true, "sum")
  | .all => some ("all", true, "all")
  | .any => some ("any", true, "any")
  | .tuple => some ("tuple", false, "tuple")
  | .int => some ("int", false, "int")
  | .max => some ("max", true, "max")
  | .min => some ("min", true, "min")
  | .sorted => some ("sorted", true, "sorted")
  | .list => some ("list", false, "list")
  | _ => none
/-- by name, what is known of lists and tuples alone -/
def metName : Mt → Option Str
  | .find => some "find"
  | .join => some "join"
  | .index => some "index"
  | _ => none
/-- sorted(set(e)) -/
def setArg : Pr → List Expr → Option (Str × Expr)
  | .sortedSet, [.Call (.Name y _) [e] [] _] => some (y, e)
  | _, _ => none
theorem set_arg {p : Pr} {l : List Expr} {e1 : Expr} {y : Str} (h : setArg p l = some (y, e1)) : p = .sortedSet ∧ ∃ p2 p3, l = [.Call (.Name y p2) [e1] [] p3] := by
  unfold setArg at h
  split at h
  · cases h; exact ⟨rfl, _, _, rfl⟩
  · cases h
/-- v.a(w), on one line -/
def metView : Expr → Option (Expr × Str × Bool × Expr)
  | .Call (.Attribute v a apos) [w] [] cpos => some (v, a, apos.endLine == cpos.line, w)
  | _ => none
theorem met_view {e v w : Expr} {a : Str} {b : Bool} (h : metView e = some (v, a, b, w)) : ∃ apos cpos, e = .Call (.Attribute v a apos) [w] [] cpos ∧ b = (apos.endLine == cpos.line) := by
  unfold metView at h
  split at h
  · cases h; exact ⟨_, _, rfl, rfl⟩
  · cases h
/-- the base of a method call is no super() -/
def baseB : Expr → Bool
  | .Call (.Name _ _) [] [] _ => false
  | _ => true
theorem base_ok {o : Expr} (h : baseB o = true) (x : Str) (env : PySem.Env) (whole : Sem Value) : attributeBase o x env whole = whole := by
  unfold attributeBase
  split
  · cases h
  · rfl
def isT : Pr → Option (Str × String)
  | .isInt => some ("int", "int")
  | .isBool => some ("bool", "bool")
  | .isStr => some ("str", "str")
  | .isTuple => some ("tuple", "tuple")
  | _ => none
def frB (G : St0) (sc : Scope) (x : Str) : Bool := glB sc x && okName x && decide (x ∈ G.free)
def noIf : Expr → Bool
  | .IfExp .. => false
  | _ => true
def IT.okT : IT → Tg → Bool
  | .enum, .tp _ => true
  | .enum, _ => false
  | _, _ => true
def itB (G : St0) (sc : Scope) : IT → Expr → Option (List Expr)
  | .seq, e => some [e]
  | .range1, .Call (.Name x _) [e] [] _ => if x == ("range" : Str) && frB G sc "range" then some [e] else none
  | .range2, .Call (.Name x _) [e, e2] [] _ => if x == ("range" : Str) && frB G sc "range" then some [e, e2] else none
  | .enum, .Call (.Name x _) [e] [] _ => if x == ("enumerate" : Str) && frB G sc "enumerate" then some [e] else none
  | _, _ => none
mutual
/-- no def is called -/
def CE.noCall : CE → Bool
  | .var _ => true
  | .lit _ => true
  | .glo _ _ => true
  | .tup es => es.noCall
  | .lst es => es.noCall
  | .bin _ a b => a.noCall && b.noCall
  | .neg a => a.noCall
  | .ix a i => a.noCall && i.noCall
  | .sl a lo hi => a.noCall && lo.noCall && hi.noCall
  | .prim _ es => es.noCall
  | _ => false
def CEs.noCall : CEs → Bool
  | .nil => true
  | .cons c r => c.noCall && r.noCall
end
mutual
theorem evE_noCall {Φ Ψ : Fn} : ∀ (c : CE) (ρ : Env) (M : Mem), c.noCall = true → evE Φ c ρ M = evE Ψ c ρ M
  | .var _, ρ, M, _ => by simp only [evE]
  | .lit _, ρ, M, _ => by simp only [evE]
  | .glo _ _, ρ, M, _ => by simp only [evE]
  | .tup es, ρ, M, h => by
    simp only [CE.noCall] at h
    simp only [evE, evL_noCall (Φ := Φ) (Ψ := Ψ) es ρ M h]
  | .lst es, ρ, M, h => by
    simp only [CE.noCall] at h
    simp only [evE, evL_noCall (Φ := Φ) (Ψ := Ψ) es ρ M h]
  | .bin _ a b, ρ, M, h => by
    simp only [CE.noCall, Bool.and_eq_true] at h
    simp only [evE, evE_noCall (Φ := Φ) (Ψ := Ψ) a ρ M h.1, fun M => evE_noCall (Φ := Φ) (Ψ := Ψ) b ρ M h.2]
  | .neg a, ρ, M, h => by
    simp only [CE.noCall] at h
    simp only [evE, evE_noCall (Φ := Φ) (Ψ := Ψ) a ρ M h]
  | .ix a b, ρ, M, h => by
    simp only [CE.noCall, Bool.and_eq_true] at h
    simp only [evE, evE_noCall (Φ := Φ) (Ψ := Ψ) a ρ M h.1, fun M => evE_noCall (Φ := Φ) (Ψ := Ψ) b ρ M h.2]
  | .sl a lo hi, ρ, M, h => by
    simp only [CE.noCall, Bool.and_eq_true] at h
    simp only [evE, evE_noCall (Φ := Φ) (Ψ := Ψ) a ρ M h.1.1, fun M => evL_noCall (Φ := Φ) (Ψ := Ψ) lo ρ M h.1.2, fun M => evL_noCall (Φ := Φ) (Ψ := Ψ) hi ρ M h.2]
  | .prim _ es, ρ, M, h => by
    simp only [CE.noCall] at h
    simp only [evE, evL_noCall (Φ := Φ) (Ψ := Ψ) es ρ M h]
  | .lstR _, ρ, M, h => by cases h
  | .dctR, ρ, M, h => by cases h
  | .cmp _ _ _, ρ, M, h => by cases h
  | .chain _ _ _ _ _, ρ, M, h => by cases h
  | .boo _ _, ρ, M, h => by cases h
  | .nt _, ρ, M, h => by cases h
  | .ite _ _ _, ρ, M, h => by cases h
  | .call _ _, ρ, M, h => by cases h
  | .off, ρ, M, h => by cases h
  | .told _ _ _, ρ, M, h => by cases h
  | .met _ _ _, ρ, M, h => by cases h
  | .lc _ _ _ _ _ _, ρ, M, h => by cases h
theorem evL_noCall {Φ Ψ : Fn} : ∀ (c : CEs) (ρ : Env) (M : Mem), c.noCall = true → evL Φ c ρ M = evL Ψ c ρ M
  | .nil, ρ, M, _ => by simp only [evL]
  | .cons c r, ρ, M, h => by
    simp only [CEs.noCall, Bool.and_eq_true] at h
    simp only [evL, evE_noCall (Φ := Φ) (Ψ := Ψ) c ρ M h.1, fun M => evL_noCall (Φ := Φ) (Ψ := Ψ) r ρ M h.2]
end
def noParams : Arguments → Bool
  | ⟨[], [], none, [], [], none, []⟩ => true
  | _ => false
/-- x(lambda: y(l)) -/
def lamView : Expr → Option (Str × Arguments × Str × List Expr × Scope)
  | .Call (.Name x _) [.Lambda params (.Call (.Name y _) l [] _) scope _] [] _ => some (x, params, y, l, scope)
  | _ => none
theorem lamView_eq {e : Expr} {x y : Str} {params : Arguments} {l : List Expr} {scope : Scope} (h : lamView e = some (x, params, y, l, scope)) : ∃ p1 p2 p3 p4 p5, e = .Call (.Name x p1) [.Lambda params (.Call (.Name y p2) l [] p3) scope p4] [] p5 := by
  unfold lamView at h
  split at h
  · cases h
    exact ⟨_, _, _, _, _, rfl⟩
  · cases h
mutual
def chkE (G : St0) (N : List Str) : CE → Scope → (Str → Bool) → Expr → Bool
  | .var i, sc, _, .Name x _ => decide (N[i]? = some x) && visB sc x && okName x
  | .lit d, _, _, .Constant c _ _ => litB d c
  | .glo x d, sc, _, .Name y _ => x == y && glB sc x && okName x && decide (G.consts.lookup x = some d)
  | .tup es, sc, fc, .Tuple l _ _ => chkL G N es sc fc l
  | .lst es, sc, fc, .List l _ => chkL G N es sc fc l
  | .lstR es, sc, fc, .List l _ => chkL G N es sc fc l
  | .bin o a b, sc, fc, .BinOp l op r _ => boB o op && chkE G N a sc fc l && chkE G N b sc fc r
  | .neg a, sc, fc, .UnaryOp .USub e _ => chkE G N a sc fc e
  | .cmp o a b, sc, fc, .Compare l [op] [r] _ => coB o op && chkE G N a sc fc l && chkE G N b sc fc r
  | .chain o p a b c, sc, fc, .Compare l [op, op'] [m, r] _ => coB o op && coB p op' && chkE G N a sc fc l && chkE G N b sc fc m && chkE G N c sc fc r
  | .boo k es, sc, fc, .BoolOp op l _ => decide (op = booOp k) && !l.isEmpty && l.all noIf && chkL G N es sc fc l
  | .nt a, sc, fc, .UnaryOp .Not e _ => noIf e && chkE G N a sc fc e
  | .ite c a b, sc, fc, .IfExp t x y _ => noIf t && chkE G N c sc fc t && chkE G N a sc fc x && chkE G N b sc fc y
  | .ix a i, sc, fc, .Subscript v s _ => plainE s && chkE G N a sc fc v && chkE G N i sc fc s
  | .sl a lo hi, sc, fc, .Subscript v (.Slice l h none _) _ => chkE G N a sc fc v && chkL G N lo sc fc l.toList && chkL G N hi sc fc h.toList
  | .off, _, _, e => plainE e
  | .met m o es, sc, fc, e => (match metView e, metName m with
      | some (v, a, ok, w), some n => a == n && ok && baseB v && chkE G N o sc fc v && chkL G N es sc fc [w]
      | _, _ => false)
  | .told t g es, sc, fc, e => (match lamView e with
      | some (x, params, y, l, scope) => fc "#" && decide (G.told = some x) && glB sc x && decide (G.tolds.lookup t = some g) && g == y && LamX.lamSB sc scope && noParams params && glB scope g && okName g && (match G.ar.lookup g with | some ps => decide (l.length = ps.length) | none => false) && !l.isEmpty && es.noCall && chkL G N es scope (fun _ => false) l
      | none => false)
  | .call f es, sc, fc, .Call (.Name x _) l [] _ => f == x && glB sc f && okName f && (match G.ar.lookup f with | some ps => decide (l.length = ps.length) | none => false) && chkL G N es sc fc l
  | .prim p es, sc, fc, .Call (.Name x _) l [] _ => (match prName p with
      | some (y, _, _) => x == y && frB G sc y && !l.isEmpty && chkL G N es sc fc l
      | none => match isT p, l with
        | some (t, _), [e, .Name z _] => x == ("isinstance" : Str) && frB G sc "isinstance" && z == t && frB G sc t && chkL G N es sc fc [e]
        | some _, _ => false
        | none, _ => (match setArg p l with
          | some (y, w) => x == ("sorted" : Str) && y == ("set" : Str) && frB G sc "sorted" && frB G sc "set" && chkL G N es sc fc [w]
          | none => false))
  | .lc g own it src cs elt, sc, fc, .ListComp e [⟨tg, iter, ifs, 0⟩] scope _ => decide ((ownP N own).map (·.2) = own) && g.is.all (fun i => decide (i ∈ own)) && it.okT g && blkC N sc scope (ownP N own) && plainE iter &&
      chkG N (relS scope sc) (blkF scope) g tg && (match itB G sc it iter with | some l => chkL G N src sc fc l | none => false) && decide (ifs.length ≤ 1) && ifs.all noIf &&
      chkL G N cs (relS scope sc) (blkF scope) ifs && chkE G N elt (relS scope sc) (blkF scope) e
  | _, _, _, _ => false
def chkL (G : St0) (N : List Str) : CEs → Scope → (Str → Bool) → List Expr → Bool
  | .nil, _, _, [] => true
  | .cons c cs, sc, fc, e :: es => chkE G N c sc fc e && chkL G N cs sc fc es
  | _, _, _, _ => false
end
theorem chk_plain {G : St0} {N : List Str} {c : CE} {sc : Scope} {fc : Str → Bool} {e : Expr} (h : chkE G N c sc fc e = true) : plainE e = true := by
  cases e with
  | Starred _ _ => cases c <;> first | (simp only [chkE] at h; exact h) | (simp [chkE, lamView, metView] at h; done)
  | Slice _ _ _ _ => cases c <;> first | (simp only [chkE] at h; exact h) | (simp [chkE, lamView, metView] at h; done)
  | Set _ _ _ => cases c <;> first | (simp only [chkE] at h; exact h) | (simp [chkE, lamView, metView] at h; done)
  | _ => rfl
/-- which expressions make a new list -/
def freshB : CE → Bool
  | .lst _ => true
  | .bin _ _ _ => true
  | .sl _ _ _ => true
  | .prim .list _ => true
  | .prim .sorted _ => true
  | .prim .sortedSet _ => true
  | .lc _ _ _ _ _ _ => true
  | _ => false
/-- a call of what tells an exception, around a lambda -/
def ToldOk (G : St0) (ca : Str → Addr) (Φ : Fn) (X : Cx) (sc : Scope) (E : XK) : Prop := ∀ (x t g : Str) (ps : List Str) (cs : CEs) (e : Expr) (l : List Expr) (scope : Scope) (params : Arguments) (p1 p2 p3 p4 p5 : Pos), G.told = some x → G.tolds.lookup t = some g → G.ar.lookup g = some ps → glB sc x = true →
  LamX.lamSB sc scope = true → noParams params = true → glB scope g = true → okName g = true → (e :: l).length = ps.length → cs.noCall = true → chkL G X.N cs scope (fun _ => false) (e :: l) = true →
    PE X (.Call (.Name x p1) [.Lambda params (.Call (.Name g p2) (e :: l) [] p3) scope p4] [] p5) (tE ca Φ E (.told t g cs))
structure SndE (ca : Str → Addr) (Φ : Fn) (E : XK) (X : Cx) (c : CE) (e : Expr) : Prop where
  pe : PE X e (tE ca Φ E c)
  pt : noIf e = true → PT X e (tT ca Φ E c)
  ps : freshB c = true → PE X e (tS ca Φ E c)
inductive SndL (ca : Str → Addr) (Φ : Fn) (E : XK) (X : Cx) : CEs → List Expr → Prop
  | nil : SndL ca Φ E X .nil []
  | cons {c : CE} {cs : CEs} {e : Expr} {es : List Expr} : plainE e = true → SndE ca Φ E X c e → SndL ca Φ E X cs es → SndL ca Φ E X (.cons c cs) (e :: es)
section
variable {G : St0} {ca : Str → Addr} {X : Cx} {sc : Scope} {fc : Str → Bool} {k : Nat} {Φ : Fn} {E : XK} {pos : Pos}
theorem SndL.pa : ∀ {cs : CEs} {es : List Expr}, SndL ca Φ E X cs es → PA X es (tL ca Φ E cs)
  | _, _, .nil => l_nil
  | _, _, .cons hp h t => l_cons hp h.pe t.pa
theorem SndL.plain : ∀ {cs : CEs} {es : List Expr}, SndL ca Φ E X cs es → es.all plainE = true
  | _, _, .nil => rfl
  | _, _, .cons hp h t => by rw [List.all_cons, hp, t.plain]; rfl
theorem SndL.len : ∀ {cs : CEs} {es : List Expr}, SndL ca Φ E X cs es → es.length = cs.len
  | _, _, .nil => rfl
  | _, _, .cons hp h t => by rw [List.length_cons, t.len]; rfl
theorem SndL.bv {kk : Bool} : ∀ {cs : CEs} {e : Expr} {es : List Expr}, SndL ca Φ E X cs (e :: es) → PE X (.BoolOp (booOp kk) (e :: es) pos) (tBv ca Φ E kk cs)
  | _, _, [], .cons _ h .nil => l_boo1 h.pe
  | _, _, _ :: _, .cons _ h t => l_boo2 h.pe t.bv
theorem SndL.bt {kk : Bool} : ∀ {cs : CEs} {e : Expr} {es : List Expr}, SndL ca Φ E X cs (e :: es) → (e :: es).all noIf = true → PW X (.BoolOp (booOp kk) (e :: es) pos) (tBs ca Φ E kk cs)
  | _, _, [], .cons _ h .nil, hn => l_booT1 (h.pt (by simpa using hn))
  | _, _, _ :: _, .cons _ h t, hn => by
    rw [List.all_cons, Bool.and_eq_true] at hn
    exact l_booT2 (h.pt hn.1) (t.bt hn.2)
/-- a plain expression: its test is its value's -/
def valT : Expr → Bool
  | .UnaryOp .Not _ _ => false
  | .BoolOp .. => false
  | .IfExp .. => false
  | .Compare .. => false
  | _ => true
theorem SndE.of {c : CE} {e : Expr} (h : PE X e (tE ca Φ E c)) (hv : valT e = true) (hf : freshB c = false) : SndE ca Φ E X c e :=
  ⟨h, fun _ => tE_tT h fun whole => by
    cases e with
    | UnaryOp op _ _ => cases op <;> first | rfl | cases hv
    | BoolOp _ _ _ => cases hv
    | IfExp _ _ _ _ => cases hv
    | Compare _ _ _ _ => cases hv
    | _ => rfl, fun z => by rw [hf] at z; cases z⟩
theorem SndE.ofS {c : CE} {e : Expr} (h : PE X e (tS ca Φ E c)) (hv : valT e = true) : SndE ca Φ E X c e :=
  ⟨tS_tE h, fun _ => tE_tT (tS_tE h) fun whole => by
    cases e with
    | UnaryOp op _ _ => cases op <;> first | rfl | cases hv
    | BoolOp _ _ _ => cases hv
    | IfExp _ _ _ _ => cases hv
    | Compare _ _ _ _ => cases hv
    | _ => rfl, fun _ => h⟩
theorem frB_of (g : Good G ca X sc fc k Φ E) {x : Str} (h : frB G sc x = true) : Gl X x ∧ X.mg x = none ∧ (x == ("__debug__" : Str)) = false ∧ x ≠ "__name__" := by
  unfold frB at h
  simp only [Bool.and_eq_true, decide_eq_true_eq] at h
  exact ⟨g.gl h.1.1, g.free x h.2, (okName_of h.1.2).1, (okName_of h.1.2).2.2⟩
/-- a built-in function or type is called -/
theorem l_prim {p : Pr} {cs : CEs} {es : List Expr} {e e0 : Expr} (hc : ∀ t, PA X (e :: es) t → PE X e0 (tCB (rPr (prim p)) t)) (ha : PA X (e :: es) (tL ca Φ E cs)) : PE X e0 (tS ca Φ E (.prim p cs)) := by
  refine PE.imp (hc _ ha) fun σ H Q ⟨F, π, ρ, M, hr, hm, h⟩ => ?_
  simp only [evE] at h
  refine ⟨F, π, ρ, M, hr, hm, h.bind.imp fun us M1 h1 => ?_⟩
  intro vs F1 π1 H1 p1 m1 r1
  obtain ⟨u, hu, q⟩ := h1.of
  cases ev : vals M1 us with
  | none => rw [ev] at hu; cases hu
  | some ds =>
    rw [ev] at hu
    cases ew : prim p ds with
    | none => simp only [Option.bind_some, ew] at hu; cases hu
    | some w =>
      simp only [Option.bind_some, ew] at hu
      cases hu
      exact ⟨F1, π1, M1, us, ds, w, m1, r1, ev, ew, q.move p1⟩
/-! ### isinstance -/
def tyN : D → String
  | .none => "NoneType"
  | .bool _ => "bool"
  | .int _ => "int"
  | .str _ => "str"
  | .tuple _ => "tuple"
  | .list _ => "list"
  | .dict _ => "dict"
theorem rdv_ty {K : PySem.W.Frag} {F : Addr → Prop} {π : List Addr} {H : Hp} {M : Mem} (m : MemR F π H M) {v : V} {u : U} {d : D} (r : RpU F π H v u) (h : rdv M u = some d) : TyX K H v (.type (tyN d)) := by
  cases u with
  | scr ds =>
    cases h
    cases r with
    | scr e q => exact e.elim (fun z => .base (.lst z.2)) fun ⟨o, z⟩ => .base (.frz z)
  | rl ns => cases h
  | p e =>
    cases h
    cases r with
    | p r =>
      cases r with
      | non => exact .base .non
      | bl b => exact .base (.bl b)
      | int i => exact .base (.int i)
      | str x => exact .base (.str x)
      | tup h _ _ => exact .fTuple h
      | lst _ h _ => exact .base (.lst h)
  | ref n =>
    obtain ⟨_, q | ⟨a, vs, ds, rfl, rfl, e, _⟩⟩ := val_rp m r h
    · cases q with
      | non => exact .base .non
      | bl b => exact .base (.bl b)
      | int i => exact .base (.int i)
      | str x => exact .base (.str x)
      | tup h1 _ _ => exact .fTuple h1
      | lst _ h1 _ => exact .base (.lst h1)
    · exact .base (.lst e)
theorem kit_int (d : D) (h : ∀ l, d ≠ .dict l) : kitB (tyN d) "int" = some (isIntD d) := by
  cases d with
  | dict l => exact absurd rfl (h l)
  | none => exact (by decide +kernel : kitB "NoneType" "int" = some false)
  | bool _ => exact (by decide +kernel : kitB "bool" "int" = some true)
  | int _ => exact (by decide +kernel : kitB "int" "int" = some true)
  | str _ => exact (by decide +kernel : kitB "str" "int" = some false)
  | tuple _ => exact (by decide +kernel : kitB "tuple" "int" = some false)
  | list _ => exact (by decide +kernel : kitB "list" "int" = some false)
theorem kit_bool (d : D) (h : ∀ l, d ≠ .dict l) : kitB (tyN d) "bool" = some (isBoolD d) := by
  cases d with
  | dict l => exact absurd rfl (h l)
  | none => exact (by decide +kernel : kitB "NoneType" "bool" = some false)
  | bool _ => exact (by decide +kernel : kitB "bool" "bool" = some true)
  | int _ => exact (by decide +kernel : kitB "int" "bool" = some false)
  | str _ => exact (by decide +kernel : kitB "str" "bool" = some false)
  | tuple _ => exact (by decide +kernel : kitB "tuple" "bool" = some false)
  | list _ => exact (by decide +kernel : kitB "list" "bool" = some false)
theorem kit_str (d : D) (h : ∀ l, d ≠ .dict l) : kitB (tyN d) "str" = some (isStrD d) := by
  cases d with
  | dict l => exact absurd rfl (h l)
  | none => exact (by decide +kernel : kitB "NoneType" "str" = some false)
  | bool _ => exact (by decide +kernel : kitB "bool" "str" = some false)
  | int _ => exact (by decide +kernel : kitB "int" "str" = some false)
  | str _ => exact (by decide +kernel : kitB "str" "str" = some true)
  | tuple _ => exact (by decide +kernel : kitB "tuple" "str" = some false)
  | list _ => exact (by decide +kernel : kitB "list" "str" = some false)
theorem kit_tuple (d : D) (h : ∀ l, d ≠ .dict l) : kitB (tyN d) "tuple" = some (isTupD d) := by
  cases d with
  | dict l => exact absurd rfl (h l)
  | none => exact (by decide +kernel : kitB "NoneType" "tuple" = some false)
  | bool _ => exact (by decide +kernel : kitB "bool" "tuple" = some false)
  | int _ => exact (by decide +kernel : kitB "int" "tuple" = some false)
  | str _ => exact (by decide +kernel : kitB "str" "tuple" = some false)
  | tuple _ => exact (by decide +kernel : kitB "tuple" "tuple" = some true)
  | list _ => exact (by decide +kernel : kitB "list" "tuple" = some false)
theorem rdv_nodict {F : Addr → Prop} {π : List Addr} {H : Hp} {M : Mem} (m : MemR F π H M) {v : V} {u : U} {d : D} (r : RpU F π H v u) (h : rdv M u = some d) : ∀ l, d ≠ .dict l := fun l e => by
  subst e
  cases rdv_dp (K := []) m r h
theorem l_isi (g : Good G ca X sc fc k Φ E) {p : Pr} {t : Str} {T : String} (ht : isT p = some (t, T)) {c : CE} {e : Expr} {p1 p2 : Pos} (h1 : frB G sc "isinstance" = true) (h2 : frB G sc t = true) (hp : plainE e = true) (he : PE X e (tE ca Φ E c)) :
    PE X (.Call (.Name "isinstance" p1) [e, .Name t p2] [] pos) (tE ca Φ E (.prim p (.cons c .nil))) := by
  obtain ⟨g1, g2, g3, g4⟩ := frB_of g h1
  obtain ⟨t1, t2, t3, t4⟩ := frB_of g h2
  have hb : bootBuiltins t = some (.type T) ∧ (∀ d : D, (∀ l, d ≠ .dict l) → ∃ b, prim p [d] = some (.bool b) ∧ kitB (tyN d) T = some b) := by
    cases p <;> cases ht
    · exact ⟨by decide +kernel, fun d hd => ⟨_, rfl, kit_int d hd⟩⟩
    · exact ⟨by decide +kernel, fun d hd => ⟨_, rfl, kit_bool d hd⟩⟩
    · exact ⟨by decide +kernel, fun d hd => ⟨_, rfl, kit_str d hd⟩⟩
    · exact ⟨by decide +kernel, fun d hd => ⟨_, rfl, kit_tuple d hd⟩⟩
  have ha : PA X [e, .Name t p2] (tCons (tE ca Φ E c) (tCons (tC (.ty T)) tNil)) := pa_cons he (pa_cons (pe_bltn t1 t2 hb.1 rfl t4 t3) pa_nil rfl) (star_plain hp _ _)
  refine PE.imp (pe_callB call_isi g1 g2 (by decide +kernel) ha g4 g3 (star_plain hp _ _) rfl) fun σ H Q ⟨F, π, ρ, M, hr, hm, h⟩ => ?_
  simp only [evE, evL] at h
  refine ⟨F, π, ρ, M, hr, hm, ?_⟩
  cases ee : evE Φ c ρ M with
  | exc c M1 => rw [ee] at h; exact h
  | bad => rw [ee] at h; exact h
  | ok u M1 =>
    rw [ee] at h
    intro v F1 π1 H1 p1 m1 r1
    have h : Out ca E F π H (R.of (lift ((vals M1 [u]).bind (prim p))) M1) (VQ F π H Q) := h
    obtain ⟨w, hw, q⟩ := h.of
    cases ev : vals M1 [u] with
    | none => rw [ev] at hw; cases hw
    | some ds =>
      rw [ev] at hw
      obtain ⟨d, r', hd, e2, e3⟩ := vals_cons ev
      cases e2
      subst e3
      obtain ⟨b, hb1, hb2⟩ := hb.2 d (rdv_nodict m1 r1 hd)
      simp only [Option.bind_some, hb1] at hw
      cases hw
      exact ⟨v, .ty T, .type (tyN d), .type T, b, rfl, .ty T, rdv_ty m1 r1 hd, kit_ty hb2, q _ F1 π1 H1 p1 m1 (.p (.bl b))⟩
theorem prName_ok (hc : X.calm = true) {p : Pr} {y : Str} {b : Bool} {id : String} (h : prName p = some (y, b, id)) :
    (b = true ∧ bootBuiltins y = some (.builtin id) ∧ CallR X (.builtin id) (rPr (prim p))) ∨ (b = false ∧ bootBuiltins y = some (.type id) ∧ CallR X (.type id) (rPr (prim p))) := by
  cases p <;> cases h
  · exact .inl ⟨rfl, by decide +kernel, pr_len⟩
  · exact .inl ⟨rfl, by decide +kernel, pr_abs⟩
  · exact .inl ⟨rfl, by decide +kernel, pr_max hc⟩
  · exact .inl ⟨rfl, by decide +kernel, pr_min hc⟩
  · exact .inl ⟨rfl, by decide +kernel, pr_sum hc⟩
  · exact .inl ⟨rfl, by decide +kernel, pr_all hc⟩
  · exact .inl ⟨rfl, by decide +kernel, pr_any hc⟩
  · exact .inl ⟨rfl, by decide +kernel, pr_sorted⟩
  · exact .inr ⟨rfl, by decide +kernel, pr_tuple⟩
  · exact .inr ⟨rfl, by decide +kernel, pr_list⟩
  · exact .inr ⟨rfl, by decide +kernel, pr_int⟩
end
end VW
end
section
set_option maxHeartbeats 2000000
/-! enumerate over a tuple. -/
namespace VW
open PySem PySem.Spec L2
open Sem (wp)
theorem enum_new {v : Value} {o : Obj} {H : Heap → Prop} (B : Begins v o H) :
    Meets (Builtin.«enumerate.__new__» ⟨[.type "enumerate", v], []⟩) (fun _ R s => H s.heap ∧
      R (.ok (.ret (.ref (s.heap.push o).objs.size))) { s with heap := (s.heap.push o).push { cls := .type "enumerate", data := .fields #[.none, .bool false, .ref s.heap.objs.size, rawInt 0, .none, .none] } }) :=
  .of_wp fun prog w A Rr st hyp => by
    obtain ⟨hp, gs, dr, tk, os⟩ := st
    obtain ⟨hH, fin⟩ := hyp
    have hsub := sub_enumerate
    have go : ∀ {A' : Around} {E : Value → Shared → Prop} {Q : Value → Shared → Prop}, Q (.ref hp.objs.size) ⟨hp.push o, gs, dr, tk, os⟩ → wpAny (model prog w) A' (pyIter v) Q E ⟨hp, gs, dr, tk, os⟩ :=
      fun q => B.iter prog w _ _ ⟨hp, gs, dr, tk, os⟩ _ hH q
    wp_walk using go
    refine wpAny_stack_any fun stk => wpAny_pure ?_
    split
    · rename_i cl _ _ _ _ _
      cases (cl == Value.type "enumerate") <;> (wp_walk using go; exact ⟨_, rfl, fin⟩)
    · wp_walk using go
      exact ⟨_, rfl, fin⟩
section
variable {prog : Program} {w : World} {A : Around} {E : Value → Shared → Prop} {s : Shared}
theorem enum_tuple {t : Addr} {items : Array Value} {Q : Value → Shared → Prop} (ht : s.heap.IsTuple t items)
    (h : ∀ h', IsEnum h' (s.heap.objs.size + 1) s.heap.objs.size 0 .none → h'.IsTupleIter s.heap.objs.size t 0 → (∀ b o, s.heap.get? b = some o → h'.get? b = some o) → Q (.ref (s.heap.objs.size + 1)) { s with heap := h' }) :
    wpAny (model prog w) A (call (.type "enumerate") [.ref t]) Q E s := by
  refine callType_new F.called_enumerate (by decide) (F.typeCall_enumerate_1 _) (F.newCall_enumerate_1 _) (fun obj => F.args_object_init_2 obj _) F.entry_enumerate_new (enum_new (begins_tuple t items)) ⟨ht, ?_⟩
  have hz : (s.heap.push { cls := .type "tuple_iterator", data := .fields #[.ref t, .int 0 0] }).objs.size = s.heap.objs.size + 1 := Heap.size_push ..
  have key := h ((s.heap.push { cls := .type "tuple_iterator", data := .fields #[.ref t, .int 0 0] }).push { cls := .type "enumerate", data := .fields #[.none, .bool false, .ref s.heap.objs.size, rawInt 0, .none, .none] })
    (by show Heap.get? _ _ = _; rw [← hz]; exact Heap.get?_push_size _ rfl) ⟨_, Heap.get?_push_of_some _ (Heap.get?_push_size _ rfl), rfl, rfl⟩ (fun b o e => Heap.get?_push_of_some _ (Heap.get?_push_of_some _ e))
  show _ ∧ _
  rw [hz]
  refine ⟨?_, key⟩
  rw [← hz]
  exact ⟨_, Heap.get?_push_size _ rfl, rfl⟩
end
/-- the tuple at a, each item in a new pair -/
def IteT (K : PySem.W.Frag) (a : Addr) : It where
  go := fun i H => ∃ (xs : List V) (x : V), SqT K H a xs ∧ xs[i]? = some x
  yld := fun i H v H' => ∃ T x, v = .ref T ∧ H T = none ∧ H' = upd H T (.tup [.int (i : Nat), x]) ∧ ∀ xs, SqT K H a xs → xs[i]? = some x
  stop := fun i H => ∃ xs : List V, SqT K H a xs ∧ xs.length = i
theorem turn_enumT {P : Program} {w : World} {K : PySem.W.Frag} {elts : List Expr} {kk : Nat} {tpos : Pos} (a e it : Addr) (hae : a ≠ e) (hai : a ≠ it) :
    Turn P w K (.Tuple elts kk tpos) (IteT K a) [e, it] e (fun i h => (∃ old, IsEnum h e it ((i : Nat) : Int) old) ∧ h.IsTupleIter it a i ∧ e ≠ it) where
  mem := List.mem_cons_self
  obj := fun i h ⟨⟨old, he⟩, ⟨o, ho, hc, hd⟩, _⟩ b hb => by
    rcases List.mem_cons.mp hb with z | z
    · subst z; exact ⟨_, he, fun v q => nomatch q⟩
    · rw [List.mem_singleton.mp z]; exact ⟨o, ho, fun v q => by rw [hd] at q; cases q⟩
  keep := fun i h h' ⟨⟨old, he⟩, hi, hne⟩ kp => ⟨⟨old, kp e List.mem_cons_self _ he⟩, hi.at fun o q => kp it (List.mem_cons_of_mem _ List.mem_cons_self) o q, hne⟩
  item := by
    intro X hP hw hK hc i pins s σ H E I hf ⟨⟨old, he⟩, hit, hne⟩ ⟨xs, x, hq, hx⟩
    subst hP hw hK
    obtain ⟨us, rv, tp, hz⟩ := I.tuple hq
    obtain ⟨u, hu, ru⟩ := rv.get hx
    have hel : e < s.heap.objs.size := Heap.lt_size he
    have hil : it < s.heap.objs.size := by obtain ⟨_, q, _⟩ := hit; exact Heap.lt_size q
    have hh : X.A.in1.handled = none := by simpa using I.ok.hd hc
    have dr := Draws.tuple (prog := X.prog) (w := X.w) (A := X.A.in1) hh it a hai us.toArray
    have hlt : i < us.toArray.size := by
      rw [List.size_toArray]
      exact (List.getElem?_eq_some_iff.mp hu).1
    refine wpAny_pyNext_enum_itemD dr he ⟨hit, tp⟩ hlt hne (fun z => ?_) fun y h' tk hy ho hst hT hsz hk => ?_
    · rcases List.mem_cons.mp z with q | q
      · exact hne q
      · exact hae (List.mem_singleton.mp q).symm
    have ey : y = u := by
      have : us.toArray[i]? = some u := by simpa using hu
      rw [this] at hy
      exact (Option.some.inj hy).symm
    subst ey
    refine ⟨_, rfl, wpAny_letOwnedTupleGo_enum (s := { s with heap := h', toks := tk + 1 }) ho fun h2 he2 sb => ?_⟩
    have hT2 : h2.get? s.heap.objs.size = some { cls := .type "tuple", data := .seq #[.int i tk, y] } := (sb.2 _ (Nat.ne_of_gt hel)).trans hT
    have new : ObjOk X.prog X.w (upd H s.heap.objs.size (.tup [.int (i : Nat), x])) h2 s.heap.objs.size (.tup [.int (i : Nat), x]) :=
      ⟨by show 2 ≤ sizeLine; rw [sizeLine_eq]; decide, [.int i tk, y], .cons ⟨_, rfl⟩ (.cons ru .nil), ⟨_, hT2, rfl, _, rfl⟩⟩
    have I1 := I.turnedNew (h' := h2) (t' := tk + 1) (ch := [e, it]) (fun b ob hb q => (sb.2 b (fun z => hb (by rw [z]; exact List.mem_cons_self))).trans (hk b ob (fun z => hb (by rw [z]; exact List.mem_cons_self)) (fun z => hb (by rw [z]; exact List.mem_cons_of_mem _ List.mem_cons_self)) q)) hf (Nat.le_refl _) new
    refine ⟨.ref s.heap.objs.size, _, I1, rfl, ⟨_, x, rfl, I.hok.fresh (Nat.le_refl _), rfl, fun ys hy => by rw [I.tuple_inj hy hq]; exact hx⟩, ⟨⟨y, ?_⟩, hst.1.at fun o q => (sb.2 it (Ne.symm hne)).trans q, hne⟩, fun b hb => ?_⟩
    · have e1 : ((i + 1 : Nat) : Int) = (i : Int) + 1 := by omega
      rw [e1]
      exact he2
    · have hb' : b < s.heap.objs.size := by
        rcases List.mem_cons.mp hb with z | z
        · rw [z]; exact hel
        · rw [List.mem_singleton.mp z]; exact hil
      rw [upd_ne (Nat.ne_of_lt hb')]
      exact (hf b hb).1
  done := by
    intro X hP hw hK hc i pins s σ H E I hf ⟨⟨old, he⟩, hit, hne⟩ ⟨xs, hq, hx⟩
    subst hP hw hK
    obtain ⟨us, rv, tp, hz⟩ := I.tuple hq
    obtain ⟨f0, f1, f2, f3, f4, f5⟩ := hf it (List.mem_cons_of_mem _ List.mem_cons_self)
    have hh : X.A.in1.handled = none := by simpa using I.ok.hd hc
    have dr := Draws.tuple (prog := X.prog) (w := X.w) (A := X.A.in1) hh it a hai us.toArray
    have hn : us.toArray.size = i := by rw [List.size_toArray, ← rv.length]; exact hx
    refine wpAny_pyNext_enum_endD dr he (by rw [hn]; exact ⟨hit, tp⟩) fun h' eb => ⟨rfl, I.turned (t' := s.toks) (fun b o hb q => eb b o hb q) f0 f1 f3 f4 f5⟩
  self := fun A i s Q E ⟨⟨_, he⟩, _⟩ h => wpAny_pyIter_enum he h
theorem pi_enumT {X : Cx} {e : Expr} {ta : TA} {p pos tpos : Pos} {elts : List Expr} {kk : Nat} (hg : Gl X "enumerate") (hm : X.mg "enumerate" = none) (ha : PA X [e] ta) (hs : starEach [e] X.env = [(false, eval e X.env)]) :
    PI X (.Tuple elts kk tpos) (.Call (.Name "enumerate" p) [e] [] pos) (fun σ H R => ta σ H fun vs H1 => ∃ a xs, vs = [.ref a] ∧ SqT X.K H1 a xs ∧ R (IteT X.K a) H1) := by
  refine ⟨fun pins s σ H R I h => ?_⟩
  refine PyProof.Rows.Call_ (ld_blt I hg hm PyProof.Rows.boot_enumerate (PyProof.Rows.callWith_type1 (thn (ha.run pos pins s σ H _ I h) fun us s1 ⟨vs, H1, I1, r1, q1⟩ => ?_) hs rfl))
  obtain ⟨a, xs, ex, hq, q⟩ := q1
  subst ex
  obtain ⟨u, rfl, ru⟩ := vals1 r1
  cases ru
  obtain ⟨ws, rv, tp, hz⟩ := I1.tuple hq
  have hal : a < s1.heap.objs.size := by obtain ⟨o, ho, _⟩ := tp; exact Heap.lt_size ho
  refine enum_tuple tp fun h' he hit hk => wpAny_pyIter_enum he ?_
  refine ⟨s1.heap.objs.size + 1, [s1.heap.objs.size + 1, s1.heap.objs.size], _, _, H1, rfl, I1.kept (t' := s1.toks) hk, turn_enumT a (s1.heap.objs.size + 1) s1.heap.objs.size (Nat.ne_of_lt (Nat.lt_succ_of_lt hal)) (Nat.ne_of_lt hal), ⟨⟨.none, he⟩, hit, Nat.succ_ne_self _⟩, fun b hb => ?_, q⟩
  have hle : s1.heap.objs.size ≤ b := by
    rcases List.mem_cons.mp hb with z | z
    · rw [z]; exact Nat.le_succ _
    · rw [List.mem_singleton.mp z]; exact Nat.le_refl _
  exact I1.fpOk hle (I1.hok.fresh hle)
section
variable {F : Addr → Prop} {π : List Addr} {H : Hp} {M : Mem}
theorem src_enumT {K : PySem.W.Frag} {a : Addr} {ds : List D} : Src (IteT K a) ((pairUp 0 ds).map .p) true (STp K a ds) where
  go := fun F π H i h hi => by
    obtain ⟨vs, hs, r⟩ := stp_sq (π := π) h
    have hv : i < vs.length := by rw [r.length]; rw [List.length_map, pairUp_len] at hi; exact hi
    exact ⟨vs, vs[i], hs, List.getElem?_eq_getElem hv⟩
  stop := fun F π H i h hi => by
    obtain ⟨vs, hs, r⟩ := stp_sq (π := π) h
    exact ⟨vs, hs, by rw [r.length, hi, List.length_map, pairUp_len]⟩
  one := fun h => by cases h
  two := fun _ F π H i x H' u h hy hu => by
    obtain ⟨vs, hs, r⟩ := stp_sq (π := π) h
    obtain ⟨T, v, e1, e2, e3, q⟩ := hy
    obtain ⟨d, hd, eu⟩ := pairUp_get hu
    rw [Nat.zero_add] at eu
    obtain ⟨v', hv, rv⟩ := r.get hd
    have := q vs hs
    rw [hv] at this
    cases this
    exact ⟨T, v, d, e1, e2, e3, eu, rv⟩
end
end VW
end
section
set_option maxHeartbeats 2000000
/-! What passes the look is sound: expressions. -/
namespace VW
open PySem PySem.Spec L2
section
variable {G : St0} {ca : Str → Addr} {X : Cx} {sc : Scope} {fc : Str → Bool} {k : Nat} {Φ : Fn} {E : XK} {pos : Pos}
theorem l_enum (g : Good G ca X sc fc k Φ E) {e : Expr} {elts : List Expr} {kk : Nat} {tpos p : Pos} {cs : CEs} (hp : plainE e = true) (hf : frB G sc "enumerate" = true) (ha : PA X [e] (tL ca Φ E cs)) :
    PI X (.Tuple elts kk tpos) (.Call (.Name "enumerate" p) [e] [] pos) (tI ca Φ E .enum cs) := by
  obtain ⟨f1, f2, f3, f4⟩ := frB_of g hf
  refine PI.imp (PI.or (pi_enum f1 f2 ha (star_plain hp _ _)) (pi_enumT f1 f2 ha (star_plain hp _ _))) fun σ H R ⟨F, π, ρ, M, hr, hm, h⟩ => ?_
  cases ee : evL Φ cs ρ M with
  | exc c M1 =>
    rw [ee] at h
    exact .inl ⟨F, π, ρ, M, hr, hm, by rw [ee]; exact h⟩
  | bad => rw [ee] at h; exact False.elim h
  | ok us M1 =>
    rw [ee] at h
    obtain ⟨xs, hx, z⟩ := h
    have hx' : ((vals M1 us).bind (walkD .enum)).map (·.map U.p) = some xs := by
      revert hx
      unfold walk
      split <;> intro hx
      · contradiction
      · exact hx
    cases ev : vals M1 us with
    | none => rw [ev] at hx'; cases hx'
    | some ds0 =>
      rw [ev] at hx'
      match ds0, hx' with
      | [d], hx' =>
        simp only [Option.bind_some, walkD] at hx'
        cases es : seqD d with
        | none => rw [es] at hx'; cases hx'
        | some ds =>
          rw [es] at hx'
          cases hx'
          cases d with
          | list es' =>
            cases es
            refine .inl ⟨F, π, ρ, M, hr, hm, ?_⟩
            rw [ee]
            intro vs F1 π1 H1 p1 m1 r1
            obtain ⟨v, u, rfl, rfl, ru, hd⟩ := args1 r1 ev
            obtain ⟨a, ws, rfl, hq, rv⟩ := rdv_lst (K := X.K) m1 ru hd
            have hw : walk M1 .seq [u] = some (ds.map .p) := by
              cases u with
              | rl ns => cases hd
              | _ => simp only [walk, ev, Option.bind_some, walkD, iterD, Option.map_some]
            exact ⟨a, ws, rfl, hq, z F1 π1 H1 p1 m1 _ (SL X.K a u (ds.map .p)) src_enumL ⟨ru, _, hq, rpus_p rv⟩ (sl_keeps hw (fun x e => by rw [hd] at e; cases e) (fun x e => by rw [hd] at e; cases e))⟩
          | tuple es' =>
            cases es
            refine .inr ⟨F, π, ρ, M, hr, hm, ?_⟩
            rw [ee]
            intro vs F1 π1 H1 p1 m1 r1
            obtain ⟨v, u, rfl, rfl, r1, hd⟩ := args1 r1 ev
            have rd : ∃ a, v = .ref a ∧ RpD F1 H1 (.ref a) (.tuple ds) := by
              cases u with
              | p d' =>
                cases hd
                cases r1 with
                | p r => cases r with
                  | tup h1 h2 h3 => exact ⟨_, rfl, .tup h1 h2 h3⟩
              | scr _ => cases hd
              | rl _ => cases hd
              | ref n =>
                simp only [rdv, val] at hd
                split at hd <;> cases hd
            obtain ⟨a, rfl, rd⟩ := rd
            obtain ⟨vs, hs, _⟩ := stp_sq (K := X.K) (π := π1) rd
            exact ⟨a, vs, rfl, hs, z F1 π1 H1 p1 m1 _ (STp X.K a ds) src_enumT rd stp_keeps⟩
          | _ => cases es
theorem itB_call {it : IT} {iter : Expr} {l : List Expr} (hi : itB G sc it iter = some l) (hn : it ≠ .seq) : ∃ x p p2, iter = .Call (.Name x p) l [] p2 ∧ (it = .range1 → x = "range" ∧ frB G sc "range" = true ∧ ∃ e, l = [e]) ∧ (it = .range2 → x = "range" ∧ frB G sc "range" = true ∧ ∃ e e2, l = [e, e2]) ∧ (it = .enum → x = "enumerate" ∧ frB G sc "enumerate" = true ∧ ∃ e, l = [e]) := by
  unfold itB at hi
  split at hi
  · exact absurd rfl hn
  · split at hi
    · rename_i hx
      rw [Bool.and_eq_true] at hx
      cases hi
      exact ⟨_, _, _, rfl, fun _ => ⟨by simpa using hx.1, hx.2, _, rfl⟩, fun z => (by cases z), fun z => (by cases z)⟩
    · cases hi
  · split at hi
    · rename_i hx
      rw [Bool.and_eq_true] at hx
      cases hi
      exact ⟨_, _, _, rfl, fun z => (by cases z), fun _ => ⟨by simpa using hx.1, hx.2, _, _, rfl⟩, fun z => (by cases z)⟩
    · cases hi
  · split at hi
    · rename_i hx
      rw [Bool.and_eq_true] at hx
      cases hi
      exact ⟨_, _, _, rfl, fun z => (by cases z), fun z => (by cases z), fun _ => ⟨by simpa using hx.1, hx.2, _, rfl⟩⟩
    · cases hi
  · cases hi
theorem frB_mem {x : Str} (h : frB G sc x = true) : glB sc x = true ∧ x ∈ G.free := by
  unfold frB at h
  simp only [Bool.and_eq_true, decide_eq_true_eq] at h
  exact ⟨h.1.1, h.2⟩
theorem l_it (g : Good G ca X sc fc k Φ E) {it : IT} {tg iter : Expr} {l : List Expr} {src : CEs} (hi : itB G sc it iter = some l) (hg : it = .enum → ∃ elts kk tpos, tg = .Tuple elts kk tpos) (hs : SndL ca Φ E X src l) : PI X tg iter (tI ca Φ E it src) := by
  have hpl := hs.plain
  cases it with
  | seq =>
    unfold itB at hi
    cases hi
    cases hs with
    | cons hp' h t => cases t; exact l_seq h.pe
  | range1 =>
    obtain ⟨x, p, p2, rfl, q, _, _⟩ := itB_call hi (fun z => by cases z)
    obtain ⟨rfl, hf, e, rfl⟩ := q rfl
    simp only [List.all_cons, List.all_nil, Bool.and_true] at hpl
    exact l_range1 g hpl (frB_mem hf).1 (frB_mem hf).2 hs.pa
  | range2 =>
    obtain ⟨x, p, p2, rfl, _, q, _⟩ := itB_call hi (fun z => by cases z)
    obtain ⟨rfl, hf, e, e2, rfl⟩ := q rfl
    simp only [List.all_cons, List.all_nil, Bool.and_true, Bool.and_eq_true] at hpl
    exact l_range2 g hpl.1 hpl.2 (frB_mem hf).1 (frB_mem hf).2 hs.pa
  | enum =>
    obtain ⟨x, p, p2, rfl, _, _, q⟩ := itB_call hi (fun z => by cases z)
    obtain ⟨rfl, hf, e, rfl⟩ := q rfl
    simp only [List.all_cons, List.all_nil, Bool.and_true] at hpl
    obtain ⟨elts, kk, tpos, rfl⟩ := hg rfl
    exact l_enum g hpl hf hs.pa
theorem l_bvn {kk : Bool} {cs : CEs} {l : List Expr} (hs : SndL ca Φ E X cs l) (hn : l.isEmpty = false) : PE X (.BoolOp (booOp kk) l pos) (tBv ca Φ E kk cs) := by
  cases l with
  | nil => cases hn
  | cons e es => exact hs.bv
theorem l_po {o : Option Expr} {cs : CEs} (h : SndL ca Φ E X cs o.toList) : PO X o (tO ca Φ E cs) := by
  cases o with
  | none => cases h; exact l_po0
  | some e =>
    cases h with
    | cons _ h t => cases t; exact l_po1 h.pe
theorem l_pts0 : PTs X [] (tBs ca Φ E true .nil) := ⟨fun pins s σ H Q I ⟨F, π, ρ, M, hr, hm, h⟩ => pts_nil.run pins s σ H Q I (by
  simp only [evB] at h
  obtain ⟨b, e, z⟩ := h
  cases e
  exact z F π H Post.refl hm)⟩
theorem l_pts1 {c : CE} {e : Expr} (h : PT X e (tT ca Φ E c)) : PTs X [e] (tBs ca Φ E true (.cons c .nil)) := ⟨fun pins s σ H Q I ⟨F, π, ρ, M, hr, hm, z⟩ => (pts_one h).run pins s σ H Q I (by
  simp only [evB] at z
  refine ⟨F, π, ρ, M, hr, hm, z.bind.imp fun x M1 h1 => ?_⟩
  split at h1
  · rename_i b
    split at h1
    · rename_i e
      rw [e]
      exact h1
    · exact h1
  · exact False.elim h1)⟩
theorem folded_plain {iter : Expr} (h : plainE iter = true) (x : Value) : foldedSetIterable iter X.env x = pure x := by
  cases iter <;> first | rfl | cases h
end
section
variable {G : St0} {ca : Str → Addr} {Φ : Fn} {k : Nat}
mutual
theorem sndE : ∀ (c : CE) (X : Cx) (sc : Scope) (fc : Str → Bool) (E : XK) (e : Expr), Good G ca X sc fc k Φ E → (fc "#" = true → ToldOk G ca Φ X sc E) → chkE G X.N c sc fc e = true → SndE ca Φ E X c e
  | .var i, X, sc, fc, E, e, g, tl, h => by
    cases e with
    | Name x p =>
      simp only [chkE, Bool.and_eq_true, decide_eq_true_eq] at h
      exact .of (l_var g h.1.1 h.1.2 h.2) rfl rfl
    | _ => cases h
  | .lit d, X, sc, fc, E, e, g, tl, h => by
    cases e with
    | Constant c j p =>
      simp only [chkE] at h
      refine .of ?_ rfl rfl
      cases d <;> cases c <;> simp only [litB, beq_iff_eq, Bool.false_eq_true] at h
      · exact l_none
      · subst h; exact l_bool
      · subst h; exact l_int
      · subst h; exact l_str
    | _ => cases h
  | .glo x d, X, sc, fc, E, e, g, tl, h => by
    cases e with
    | Name y p =>
      simp only [chkE, Bool.and_eq_true, decide_eq_true_eq, beq_iff_eq] at h
      obtain ⟨⟨⟨rfl, h2⟩, h3⟩, h4⟩ := h
      exact .of (l_glo g h2 h3 h4) rfl rfl
    | _ => cases h
  | .tup cs, X, sc, fc, E, e, g, tl, h => by
    cases e with
    | Tuple l j p =>
      simp only [chkE] at h
      exact .of (l_tup (sndL cs X sc fc E l g tl h).pa) rfl rfl
    | _ => cases h
  | .lst cs, X, sc, fc, E, e, g, tl, h => by
    cases e with
    | List l p =>
      simp only [chkE] at h
      exact .ofS (l_lst (sndL cs X sc fc E l g tl h).pa) rfl
    | _ => cases h
  | .lstR cs, X, sc, fc, E, e, g, tl, h => by
    cases e with
    | List l p =>
      simp only [chkE] at h
      exact .of (l_lstR (sndL cs X sc fc E l g tl h).pa) rfl rfl
    | _ => cases h
  | .dctR, X, sc, fc, E, e, g, tl, h => by
    cases e <;> cases h
  | .bin o a b, X, sc, fc, E, e, g, tl, h => by
    cases e with
    | BinOp l op r p =>
      simp only [chkE, Bool.and_eq_true] at h
      exact .ofS (l_bin h.1.1 (sndE a X sc fc E l g tl h.1.2).pe (sndE b X sc fc E r g tl h.2).pe) rfl
    | _ => cases h
  | .neg a, X, sc, fc, E, e, g, tl, h => by
    cases e with
    | UnaryOp op e p =>
      cases op with
      | USub =>
        simp only [chkE] at h
        exact .of (l_neg (sndE a X sc fc E e g tl h).pe) rfl rfl
      | _ => cases h
    | _ => cases h
  | .cmp o a b, X, sc, fc, E, e, g, tl, h => by
    cases e with
    | Compare l ops rs p =>
      match ops, rs, h with
      | [op], [r], h =>
        simp only [chkE, Bool.and_eq_true] at h
        have ha := (sndE a X sc fc E l g tl h.1.2).pe
        have hb := (sndE b X sc fc E r g tl h.2).pe
        exact ⟨l_cmp g h.1.1 (chk_plain h.2) ha hb, fun _ => l_cmpT g h.1.1 (chk_plain h.2) ha hb, fun z => by cases z⟩
    | _ => cases h
  | .chain o p a b c, X, sc, fc, E, e, g, tl, h => by
    cases e with
    | Compare l ops rs p =>
      match ops, rs, h with
      | [op, op'], [m, r], h =>
        simp only [chkE, Bool.and_eq_true] at h
        have ha := (sndE a X sc fc E l g tl h.1.1.2).pe
        have hb := (sndE b X sc fc E m g tl h.1.2).pe
        have hc := (sndE c X sc fc E r g tl h.2).pe
        exact ⟨l_chain g h.1.1.1.1 h.1.1.1.2 (chk_plain h.1.2) (chk_plain h.2) ha hb hc, fun _ => l_chainT g h.1.1.1.1 h.1.1.1.2 (chk_plain h.1.2) (chk_plain h.2) ha hb hc, fun z => by cases z⟩
    | _ => cases h
  | .boo kk cs, X, sc, fc, E, e, g, tl, h => by
    cases e with
    | BoolOp op l p =>
      simp only [chkE, Bool.and_eq_true, decide_eq_true_eq, Bool.not_eq_true'] at h
      obtain ⟨⟨⟨rfl, h2⟩, h3⟩, h4⟩ := h
      have hs := sndL cs X sc fc E l g tl h4
      cases l with
      | nil => cases h2
      | cons e es =>
        refine ⟨PE.imp hs.bv fun σ H Q z => ?_, fun _ => PT.imp (hs.bt h3).pt fun σ H Q z => ?_, fun z => by cases z⟩
        · simpa only [tE, evE, tBv] using z
        · simpa only [tT, evE, tBs] using z
    | _ => cases h
  | .nt a, X, sc, fc, E, e, g, tl, h => by
    cases e with
    | UnaryOp op e p =>
      cases op with
      | Not =>
        simp only [chkE, Bool.and_eq_true] at h
        have ha := sndE a X sc fc E e g tl h.2
        exact ⟨l_nt ha.pe, fun _ => l_ntT (ha.pt h.1), fun z => by cases z⟩
      | _ => cases h
    | _ => cases h
  | .ite c a b, X, sc, fc, E, e, g, tl, h => by
    cases e with
    | IfExp t x y p =>
      simp only [chkE, Bool.and_eq_true] at h
      exact ⟨l_ite ((sndE c X sc fc E t g tl h.1.1.2).pt h.1.1.1) (sndE a X sc fc E x g tl h.1.2).pe (sndE b X sc fc E y g tl h.2).pe, fun z => (by cases z), fun z => (by cases z)⟩
    | _ => cases h
  | .ix a i, X, sc, fc, E, e, g, tl, h => by
    cases e with
    | Subscript v s p =>
      simp only [chkE, Bool.and_eq_true] at h
      exact .of (l_ix h.1.1 (sndE a X sc fc E v g tl h.1.2).pe (sndE i X sc fc E s g tl h.2).pe) rfl rfl
    | _ => cases h
  | .sl a lo hi, X, sc, fc, E, e, g, tl, h => by
    cases e with
    | Subscript v s p =>
      cases s with
      | Slice l hh st p2 =>
        cases st with
        | none =>
          simp only [chkE, Bool.and_eq_true] at h
          have h1 := (sndE a X sc fc E v g tl h.1.1).pe
          have h2 := sndL lo X sc fc E _ g tl h.1.2
          have h3 := sndL hi X sc fc E _ g tl h.2
          exact .ofS (l_sl h1 (l_po h2) (l_po h3)) rfl
        | some _ => cases h
      | _ => cases h
    | _ => cases h
  | .call f cs, X, sc, fc, E, e, g, tl, h => by
    cases e with
    | Call fe l kw p =>
      cases fe with
      | Name x p2 =>
        cases kw with
        | nil =>
          simp only [chkE, Bool.and_eq_true, beq_iff_eq] at h
          obtain ⟨⟨⟨⟨rfl, h2⟩, h3⟩, h4⟩, h5⟩ := h
          have hs := sndL cs X sc fc E l g tl h5
          cases hl : G.ar.lookup f with
          | none => rw [hl] at h4; cases h4
          | some ps =>
            rw [hl] at h4
            have h4 : l.length = ps.length := by simpa using h4
            refine .of ?_ rfl rfl
            cases l with
            | nil =>
              cases hs
              cases ps with
              | nil => exact l_call0 g hl h2 h3
              | cons _ _ => cases h4
            | cons e es => exact l_call g hl h4 h2 h3 hs.plain hs.pa fun ρ M us M' z => by rw [evL_length _ _ _ _ _ z, ← hs.len, h4]
        | cons _ _ => cases h
      | _ => cases h
    | _ => cases h
  | .off, X, sc, fc, E, e, g, tl, h => ⟨⟨fun pins s σ H Q I ⟨F, π, ρ, M, _, _, z⟩ => by simp only [evE] at z; exact False.elim z⟩, fun _ => ⟨fun pins s σ H Q I ⟨F, π, ρ, M, _, _, z⟩ => by simp only [evE] at z; exact False.elim z⟩, fun z => by cases z⟩
  | .told t q cs, X, sc, fc, E, e, g, tl, h => by
    simp only [chkE] at h
    cases hv : lamView e with
    | none => rw [hv] at h; cases h
    | some z =>
      obtain ⟨x, params, y, l, scope⟩ := z
      obtain ⟨p1, p2, p3, p4, p5, rfl⟩ := lamView_eq hv
      rw [hv] at h
      simp only [Bool.and_eq_true, beq_iff_eq, decide_eq_true_eq, Bool.not_eq_true'] at h
      obtain ⟨⟨⟨⟨⟨⟨⟨⟨⟨⟨⟨⟨h1, h2⟩, h3⟩, h4⟩, rfl⟩, h6⟩, h7⟩, h8⟩, h9⟩, h10⟩, h11⟩, h12⟩, h13⟩ := h
      cases hl : G.ar.lookup q with
      | none => rw [hl] at h10; cases h10
      | some ps =>
        rw [hl] at h10
        have h10 : l.length = ps.length := by simpa using h10
        cases l with
        | nil => cases h11
        | cons e es => exact .of (tl h1 x t q ps cs e es scope params _ _ _ _ _ h2 h4 hl h3 h6 h7 h8 h9 h10 h12 h13) rfl rfl
  | .prim pr cs, X, sc, fc, E, e, g, tl, h => by
    cases e with
    | Call fe l kw p =>
      cases fe with
      | Name x p2 =>
        cases kw with
        | nil =>
          simp only [chkE] at h
          cases hp : prName pr with
          | some y =>
            obtain ⟨y, b, id⟩ := y
            rw [hp] at h
            simp only [Bool.and_eq_true, beq_iff_eq, Bool.not_eq_true'] at h
            obtain ⟨⟨⟨rfl, h2⟩, h3⟩, h4⟩ := h
            have hs := sndL cs X sc fc E l g tl h4
            obtain ⟨f1, f2, f3, f4⟩ := frB_of g h2
            cases l with
            | nil => cases h3
            | cons e es =>
              have hpl := hs.plain
              rw [List.all_cons, Bool.and_eq_true] at hpl
              refine .ofS (l_prim (e := e) (es := es) (fun t ha => ?_) hs.pa) rfl
              rcases prName_ok g.calm hp with ⟨rfl, hb, hc⟩ | ⟨rfl, hb, hc⟩
              · exact pe_callB hc f1 f2 hb ha f4 f3 (star_plain hpl.1 _ _) (nostar _ _ hpl.2)
              · exact pe_callTy hc f1 f2 hb ha f4 f3 (star_plain hpl.1 _ _) (nostar _ _ hpl.2)
          | none =>
            rw [hp] at h
            cases ht : isT pr with
            | none =>
              rw [ht] at h
              simp only at h
              cases hv : setArg pr l with
              | none => rw [hv] at h; cases h
              | some z =>
                obtain ⟨y, w⟩ := z
                rw [hv] at h
                obtain ⟨rfl, p3, p4, rfl⟩ := set_arg hv
                simp only [Bool.and_eq_true, beq_iff_eq] at h
                obtain ⟨⟨⟨⟨rfl, rfl⟩, h3⟩, h4⟩, h5⟩ := h
                obtain ⟨f1, f2, _, _⟩ := frB_of g h3
                obtain ⟨f3, f4, _, _⟩ := frB_of g h4
                have hs := sndL cs X sc fc E [w] g tl h5
                have hpl := hs.plain
                simp only [List.all_cons, List.all_nil, Bool.and_true] at hpl
                exact .ofS (l_sortedSet g.calm f1 f2 f3 f4 hpl hs.pa) rfl
            | some tt =>
              obtain ⟨t, T⟩ := tt
              rw [ht] at h
              match l, h with
              | [e, .Name z p3], h =>
                simp only [Bool.and_eq_true, beq_iff_eq] at h
                obtain ⟨⟨⟨⟨rfl, h2⟩, rfl⟩, h4⟩, h5⟩ := h
                have hs := sndL cs X sc fc E [e] g tl h5
                cases hs with
                | cons hpl he tl =>
                  cases tl
                  exact .of (l_isi g ht h2 h4 hpl he.pe) rfl (by cases pr <;> first | rfl | cases ht)
        | cons _ _ => cases h
      | _ => cases h
    | _ => cases h
  | .met m o cs, X, sc, fc, E, e, g, tl, h => by
    simp only [chkE] at h
    cases hv : metView e with
    | none => rw [hv] at h; cases h
    | some z =>
      obtain ⟨v, a, ok, w⟩ := z
      obtain ⟨apos, cpos, rfl, rfl⟩ := met_view hv
      rw [hv] at h
      cases hn : metName m with
      | none => rw [hn] at h; cases h
      | some n =>
        rw [hn] at h
        simp only [Bool.and_eq_true, beq_iff_eq] at h
        obtain ⟨⟨⟨⟨rfl, h2⟩, h3⟩, h4⟩, h5⟩ := h
        have ho := (sndE o X sc fc E v g tl h4).pe
        have hs := sndL cs X sc fc E [w] g tl h5
        have hpl := hs.plain
        simp only [List.all_cons, List.all_nil, Bool.and_true] at hpl
        refine .of ?_ rfl rfl
        cases m <;> cases hn
        · exact l_find (base_ok h3 _ _ _) (by simpa using h2) hpl ho hs.pa
        · exact l_index g (base_ok h3 _ _ _) (by simpa using h2) hpl ho hs.pa
        · exact l_join (base_ok h3 _ _ _) (by simpa using h2) hpl ho hs.pa
  | .lc t own it src cs elt, X, sc, fc, E, e, g, tl, h => by
    cases e with
    | ListComp e gens scope p =>
      match gens, h with
      | [⟨tg, iter, ifs, 0⟩], h =>
        simp only [chkE, Bool.and_eq_true, decide_eq_true_eq] at h
        obtain ⟨⟨⟨⟨⟨⟨⟨⟨⟨⟨h1, h2⟩, h3⟩, h4⟩, h5⟩, h6⟩, h7⟩, h8⟩, h9⟩, h10⟩, h11⟩ := h
        cases hi : itB G sc it iter with
        | none => rw [hi] at h7; cases h7
        | some l =>
          rw [hi] at h7
          have hs := sndL src X sc fc E l g tl h7
          have own' : ∀ i ∈ t.is, i ∈ own := fun i z => by
            have := List.all_eq_true.mp h2 i z
            simpa using this
          have hpr : it.pr = true → ∃ is, t = .tp is := fun z => by
            cases it <;> first | (cases z; done) | skip
            cases t with
            | nm _ => cases h3
            | tp is => exact ⟨is, rfl⟩
          have hen : it = .enum → ∃ elts kk tpos, tg = .Tuple elts kk tpos := fun z => by
            subst z
            cases t with
            | nm _ => cases h3
            | tp is =>
              cases tg with
              | Tuple a b c => exact ⟨a, b, c, rfl⟩
              | _ => cases h6
          refine .ofS (l_lc g h1.symm own' hpr h4 (l_it g hi hen hs) (fun s H C cl fp => pg_tg (g.blk s H scope C cl fp) h6) (fun s H C cl fp => ?_) (fun s H C cl fp => (sndE elt _ _ _ _ _ (g.blk s H scope C cl fp) (fun z => by cases z) h11).pe) (folded_plain h5)) rfl
          have hcs := sndL cs _ _ _ _ _ (g.blk s H scope C cl fp) (fun z => by cases z) h10
          match ifs, h8, h9, hcs with
          | [], _, _, hcs =>
            cases hcs
            exact l_pts0
          | [c], _, h9, hcs =>
            simp only [List.all_cons, List.all_nil, Bool.and_true] at h9
            cases hcs with
            | cons _ hc tl =>
              cases tl
              exact l_pts1 (hc.pt h9)
          | _ :: _ :: _, h8, _, _ => exact absurd h8 (by simp)
    | _ => cases h
theorem sndL : ∀ (cs : CEs) (X : Cx) (sc : Scope) (fc : Str → Bool) (E : XK) (es : List Expr), Good G ca X sc fc k Φ E → (fc "#" = true → ToldOk G ca Φ X sc E) → chkL G X.N cs sc fc es = true → SndL ca Φ E X cs es
  | .nil, X, sc, fc, E, es, g, tl, h => by
    cases es with
    | nil => exact .nil
    | cons _ _ => cases h
  | .cons c cs, X, sc, fc, E, es, g, tl, h => by
    cases es with
    | nil => cases h
    | cons e es =>
      simp only [chkL, Bool.and_eq_true] at h
      exact .cons (chk_plain h.1) (sndE c X sc fc E e g tl h.1) (sndL cs X sc fc E es g tl h.2)
end
end
end VW
end
section
set_option maxHeartbeats 2000000
/-! What passes the look is sound: statements. -/
namespace VW
open PySem PySem.Spec L2
def CE.isLc : CE → Bool
  | .lc .. => true
  | _ => false
/-- whether the store goes into the comprehension -/
def inLc (sc : Scope) : Expr → Expr → Bool
  | .Name y py, .ListComp _ _ scope pos => lcB sc y py pos scope
  | _, _ => false
/-- .. it does not -/
def outLc (sc : Scope) : Expr → Expr → Bool
  | .Name y py, .ListComp _ _ scope pos => !lcB sc y py pos scope
  | _, e => !compB e
def nmsView : List Expr → Option (List Str)
  | [] => some []
  | .Name x _ :: r => (nmsView r).map (x :: ·)
  | _ :: _ => none
/-- x, y = v, w -/
def parView : Expr → Expr → Option (List Str × List Expr)
  | .Tuple ts _ _, .Tuple vs _ _ => (nmsView ts).map fun xs => (xs, vs)
  | _, _ => none
theorem nms_cons {ts : List Expr} {x : Str} {xs : List Str} (h : nmsView ts = some (x :: xs)) : ∃ p r, ts = .Name x p :: r ∧ nmsView r = some xs := by
  cases ts with
  | nil => cases h
  | cons e r =>
    cases e with
    | Name y p =>
      simp only [nmsView] at h
      cases e : nmsView r with
      | none => rw [e] at h; cases h
      | some z => rw [e] at h; cases h; exact ⟨p, r, rfl, e⟩
    | _ => cases h
theorem nms_nil {ts : List Expr} (h : nmsView ts = some []) : ts = [] := by
  cases ts with
  | nil => rfl
  | cons e r =>
    cases e with
    | Name y p =>
      simp only [nmsView] at h
      cases e : nmsView r with
      | none => rw [e] at h; cases h
      | some z => rw [e] at h; cases h
    | _ => cases h
theorem par_view {tg v : Expr} {xs : List Str} {vs : List Expr} (h : parView tg v = some (xs, vs)) : ∃ ts k p k2 p2, tg = .Tuple ts k p ∧ v = .Tuple vs k2 p2 ∧ nmsView ts = some xs := by
  unfold parView at h
  split at h
  · rename_i ts k p vs' k2 p2
    cases e : nmsView ts with
    | none => rw [e] at h; cases h
    | some z => rw [e] at h; cases h; exact ⟨ts, k, p, k2, p2, rfl, rfl, e⟩
  · cases h
/-- v.a(w), on one line -/
def appView : Expr → Option (Expr × Str × Bool × Expr)
  | .Call (.Attribute v a apos) [w] [] cpos => some (v, a, apos.endLine == cpos.line, w)
  | _ => none
theorem app_view {e v w : Expr} {a : Str} {b : Bool} (h : appView e = some (v, a, b, w)) : ∃ apos cpos, e = .Call (.Attribute v a apos) [w] [] cpos ∧ b = (apos.endLine == cpos.line) := by
  unfold appView at h
  split at h
  · cases h; exact ⟨_, _, rfl, rfl⟩
  · cases h
/-- c('..') -/
def raiView : Expr → Option Str
  | .Call (.Name x _) [.Constant (.str _) _ _] [] _ => some x
  | _ => none
theorem rai_view {e : Expr} {x : Str} (h : raiView e = some x) : ∃ p m j p2 p3, e = .Call (.Name x p) [.Constant (.str m) j p2] [] p3 := by
  unfold raiView at h
  split at h
  · cases h; exact ⟨_, _, _, _, _, rfl⟩
  · cases h
mutual
def chkS (G : St0) (N : List Str) (sc : Scope) : CS → Stmt → Bool
  | .asg g e, .Assign [tg] v _ => chkG N sc (fun _ => true) g tg && asgB tg && decide (swM sc tg v = some none) && chkE G N e sc (fun _ => true) v && (outLc sc tg v || (inLc sc tg v && e.isLc))
  | .new i e, .Assign [tg] v _ => chkNm N sc (fun _ => true) i tg && asgB tg && decide (swM sc tg v = some none) && freshB e && chkE G N e sc (fun _ => true) v && (outLc sc tg v || (inLc sc tg v && e.isLc))
  | .par i j a b, .Assign [tg] v _ => (match parView tg v with
      | some ([x, y], [v1, v2]) => decide (N[i]? = some x) && decide (N[j]? = some y) && decide (i ≠ j) && decide (sc.names.lookup x = some .local) && decide (sc.names.lookup y = some .local) &&
        decide (swM sc tg v = some (some [x, y])) && chkE G N a sc (fun _ => true) v1 && chkE G N b sc (fun _ => true) v2
      | _ => false)
  | .par3 i j l a b c, .Assign [tg] v _ => (match parView tg v with
      | some ([x, y, z], [v1, v2, v3]) => decide (N[i]? = some x) && decide (N[j]? = some y) && decide (N[l]? = some z) && decide (i ≠ j) && decide (i ≠ l) && decide (j ≠ l) && decide (sc.names.lookup x = some .local) && decide (sc.names.lookup y = some .local) && decide (sc.names.lookup z = some .local) &&
        decide (swM sc tg v = some (some [x, y, z])) && chkE G N a sc (fun _ => true) v1 && chkE G N b sc (fun _ => true) v2 && chkE G N c sc (fun _ => true) v3
      | _ => false)
  | .app o e, .Expr v _ => (match appView v with
      | some (v1, at_, ok, v2) => (at_ == ("append" : Str)) && baseB v1 && ok && chkE G N o sc (fun _ => true) v1 && chkE G N e sc (fun _ => true) v2
      | none => false)
  | .sti o k e, .Assign [.Subscript v i _] w _ => !compB w && plainE i && chkE G N o sc (fun _ => true) v && chkE G N k sc (fun _ => true) i && chkE G N e sc (fun _ => true) w
  | .exp e, .Expr v _ => !compB v && chkE G N e sc (fun _ => true) v
  | .ret e, .Return (some v) _ => chkE G N e sc (fun _ => true) v
  | .iff c a b, .If t x y _ => noIf t && chkE G N c sc (fun _ => true) t && chkSs G N sc a x && chkSs G N sc b y
  | .whl c b, .While t x [] _ => noIf t && chkE G N c sc (fun _ => true) t && chkSs G N sc b x
  | .for_ g it src b, .For tg iter x [] _ => it.okT g && plainE iter && chkG N sc (fun _ => true) g tg && (match itB G sc it iter with | some l => chkL G N src sc (fun _ => true) l | none => false) && chkSs G N sc b x
  | .rai c, .Raise (some v) none _ => decide (raiView v = some c) && glB sc c && okName c && decide (c ∈ G.excs)
  | _, _ => false
def chkSs (G : St0) (N : List Str) (sc : Scope) : CSs → List Stmt → Bool
  | .nil, [] => true
  | .cons s r, st :: rest => chkS G N sc s st && chkSs G N sc r rest
  | _, _ => false
end
section
variable {G : St0} {ca : Str → Addr} {Φ : Fn} {k : Nat} {X : Cx} {sc : Scope} {E : XK}
/-- the parts of a comprehension -/
theorem sole_out (gs : GoodS G ca X sc k Φ E) {tg v : Expr} {l : Nat} (h : outLc sc tg v = true) : swapsWithSole [tg] v l X.env = pure false := by
  show swapsWith v (some tg) l X.env = pure false
  unfold outLc at h
  split at h
  · rw [sw_lc gs.good.scope gs.kind]
    simp only [Bool.not_eq_true'] at h
    rw [h]
  · simp only [Bool.not_eq_true'] at h
    exact sw_plain h _ _ _
theorem l_setLc (gs : GoodS G ca X sc k Φ E) (tl : ToldOk G ca Φ X sc E) {i : Nat} {c : CE} {tg v : Expr} {pos : Pos} (hg : chkNm X.N sc (fun _ => true) i tg = true) (hc : chkE G X.N c sc (fun _ => true) v = true) (hi : inLc sc tg v = true) (hl : c.isLc = true) :
    PS X (.Assign [tg] v pos) (tSt ca E Φ (.asg (.nm i) c)) ∧ PS X (.Assign [tg] v pos) (tSt ca E Φ (.new i c)) := by
  cases tg with
  | Name y py =>
    simp only [chkNm, Bool.and_eq_true, decide_eq_true_eq] at hg
    cases v with
    | ListComp e gens scope p =>
      cases c with
      | lc t own it src cs elt =>
        match gens, hc with
        | [⟨tg, iter, ifs, 0⟩], h =>
          have g := gs.good
          simp only [chkE, Bool.and_eq_true, decide_eq_true_eq] at h
          obtain ⟨⟨⟨⟨⟨⟨⟨⟨⟨⟨h1, h2⟩, h3⟩, h4⟩, h5⟩, h6⟩, h7⟩, h8⟩, h9⟩, h10⟩, h11⟩ := h
          cases hi' : itB G sc it iter with
          | none => rw [hi'] at h7; cases h7
          | some l =>
            rw [hi'] at h7
            have hs := sndL src X sc _ E l g (fun _ => tl) h7
            have own' : ∀ i ∈ t.is, i ∈ own := fun i z => by
              have := List.all_eq_true.mp h2 i z
              simpa using this
            have hpr : it.pr = true → ∃ is, t = .tp is := fun z => by
              cases it <;> first | (cases z; done) | skip
              cases t with
              | nm _ => cases h3
              | tp is => exact ⟨is, rfl⟩
            have hen : it = .enum → ∃ elts kk tpos, tg = .Tuple elts kk tpos := fun z => by
              subst z
              cases t with
              | nm _ => cases h3
              | tp is =>
                cases tg with
                | Tuple a b c => exact ⟨a, b, c, rfl⟩
                | _ => cases h6
            refine l_asgLc gs h1.symm own' hpr hg.1.1 hi h4 (l_it g hi' hen hs) (fun s H C cl fp => pg_tg (g.blk s H scope C cl fp) h6) (fun s H C cl fp => ?_) (fun s H C cl fp => (sndE elt _ _ _ _ _ (g.blk s H scope C cl fp) (fun z => by cases z) h11).pe) (folded_plain h5)
            have hcs := sndL cs _ _ _ _ _ (g.blk s H scope C cl fp) (fun z => by cases z) h10
            match ifs, h8, h9, hcs with
            | [], _, _, hcs =>
              cases hcs
              exact l_pts0
            | [c], _, h9, hcs =>
              simp only [List.all_cons, List.all_nil, Bool.and_true] at h9
              cases hcs with
              | cons _ hct tl =>
                cases tl
                exact l_pts1 (hct.pt h9)
            | _ :: _ :: _, h8, _, _ => exact absurd h8 (by simp)
      | _ => cases hl
    | _ => cases hi
  | _ => cases hg
end
section
variable {G : St0} {ca : Str → Addr} {Φ : Fn} {k : Nat} {X : Cx} {sc : Scope} {E : XK}
mutual
theorem sndS (gs : GoodS G ca X sc k Φ E) (tl : ToldOk G ca Φ X sc E) : ∀ (s : CS) (st : Stmt), chkS G X.N sc s st = true → PS X st (tSt ca E Φ s)
  | .asg g e, st, h => by
    cases st with
    | Assign ts v pos =>
      match ts, h with
      | [tg], h =>
        simp only [chkS, Bool.and_eq_true, decide_eq_true_eq, Bool.or_eq_true] at h
        obtain ⟨⟨⟨⟨h1, h2⟩, h3⟩, h4⟩, h5⟩ := h
        rcases h5 with h5 | ⟨h5, h6⟩
        · exact l_asg gs h1 h2 (sole_out gs h5) h3 (sndE e X sc _ E v gs.good (fun _ => tl) h4).pe
        · cases g with
          | nm i => exact (l_setLc gs tl h1 h4 h5 h6).1
          | tp is =>
            cases tg with
            | Tuple _ _ _ => cases v <;> cases h5
            | _ => cases h1
    | _ => cases h
  | .new i e, st, h => by
    cases st with
    | Assign ts v pos =>
      match ts, h with
      | [tg], h =>
        simp only [chkS, Bool.and_eq_true, decide_eq_true_eq, Bool.or_eq_true] at h
        obtain ⟨⟨⟨⟨⟨h1, h2⟩, h3⟩, h3'⟩, h4⟩, h5⟩ := h
        rcases h5 with h5 | ⟨h5, h6⟩
        · exact l_new gs h1 h2 (sole_out gs h5) h3 ((sndE e X sc _ E v gs.good (fun _ => tl) h4).ps h3')
        · exact (l_setLc gs tl h1 h4 h5 h6).2
    | _ => cases h
  | .par i j a b, st, h => by
    cases st with
    | Assign ts v pos =>
      match ts, h with
      | [tg], h =>
        simp only [chkS] at h
        split at h
        · rename_i x y v1 v2 hv
          obtain ⟨ts, k1, p1, k2, p2, rfl, rfl, hn⟩ := par_view hv
          obtain ⟨px, r, rfl, hn1⟩ := nms_cons hn
          obtain ⟨py, r, rfl, hn2⟩ := nms_cons hn1
          cases nms_nil hn2
          simp only [Bool.and_eq_true, decide_eq_true_eq] at h
          obtain ⟨⟨⟨⟨⟨⟨⟨h1, h2⟩, h3⟩, h4⟩, h5⟩, h6⟩, h7⟩, h8⟩ := h
          exact l_par gs h1 h2 h3 h4 h5 h6 (l_cons (chk_plain h7) (sndE a X sc _ E v1 gs.good (fun _ => tl) h7).pe (l_cons (chk_plain h8) (sndE b X sc _ E v2 gs.good (fun _ => tl) h8).pe l_nil))
        · cases h
    | _ => cases h
  | .par3 i j l a b c, st, h => by
    cases st with
    | Assign ts v pos =>
      match ts, h with
      | [tg], h =>
        simp only [chkS] at h
        split at h
        · rename_i x y z v1 v2 v3 hv
          obtain ⟨ts, k1, p1, k2, p2, rfl, rfl, hn⟩ := par_view hv
          obtain ⟨px, r, rfl, hn1⟩ := nms_cons hn
          obtain ⟨py, r, rfl, hn2⟩ := nms_cons hn1
          obtain ⟨pz, r, rfl, hn3⟩ := nms_cons hn2
          cases nms_nil hn3
          simp only [Bool.and_eq_true, decide_eq_true_eq] at h
          obtain ⟨⟨⟨⟨⟨⟨⟨⟨⟨⟨⟨⟨h1, h2⟩, h3⟩, h4⟩, h5⟩, h6⟩, h7⟩, h8⟩, h9⟩, h10⟩, h11⟩, h12⟩, h13⟩ := h
          exact l_par3 gs h1 h2 h3 h4 h5 h6 h7 h8 h9 h10 (l_cons (chk_plain h11) (sndE a X sc _ E v1 gs.good (fun _ => tl) h11).pe (l_cons (chk_plain h12) (sndE b X sc _ E v2 gs.good (fun _ => tl) h12).pe (l_cons (chk_plain h13) (sndE c X sc _ E v3 gs.good (fun _ => tl) h13).pe l_nil)))
        · cases h
    | _ => cases h
  | .app o e, st, h => by
    cases st with
    | Expr v pos =>
      simp only [chkS] at h
      cases hv : appView v with
      | none => rw [hv] at h; cases h
      | some z =>
        obtain ⟨v1, at_, ok, v2⟩ := z
        obtain ⟨apos, cpos, rfl, rfl⟩ := app_view hv
        rw [hv] at h
        simp only [Bool.and_eq_true, beq_iff_eq] at h
        obtain ⟨⟨⟨⟨rfl, h2⟩, h3⟩, h4⟩, h5⟩ := h
        exact l_app (base_ok h2 _ _ _) (by simpa using h3) (chk_plain h5) (sndE o X sc _ E v1 gs.good (fun _ => tl) h4).pe (sndE e X sc _ E v2 gs.good (fun _ => tl) h5).pe
    | _ => cases h
  | .sti o kk e, st, h => by
    cases st with
    | Assign ts v pos =>
      match ts, h with
      | [.Subscript u i sp], h =>
        simp only [chkS, Bool.and_eq_true, Bool.not_eq_true'] at h
        obtain ⟨⟨⟨⟨h1, h2⟩, h3⟩, h4⟩, h5⟩ := h
        exact l_sti gs h1 h2 (sndE o X sc _ E u gs.good (fun _ => tl) h3).pe (sndE kk X sc _ E i gs.good (fun _ => tl) h4).pe (sndE e X sc _ E v gs.good (fun _ => tl) h5).pe
    | _ => cases h
  | .exp e, st, h => by
    cases st with
    | Expr v pos =>
      simp only [chkS, Bool.and_eq_true, Bool.not_eq_true'] at h
      exact l_exp h.1 (sndE e X sc _ E v gs.good (fun _ => tl) h.2).pe
    | _ => cases h
  | .ret e, st, h => by
    cases st with
    | Return v pos =>
      cases v with
      | none => cases h
      | some v =>
        simp only [chkS] at h
        exact l_ret (sndE e X sc _ E v gs.good (fun _ => tl) h).pe
    | _ => cases h
  | .iff c a b, st, h => by
    cases st with
    | If t x y pos =>
      simp only [chkS, Bool.and_eq_true] at h
      obtain ⟨⟨⟨h1, h2⟩, h3⟩, h4⟩ := h
      exact l_iff ((sndE c X sc _ E t gs.good (fun _ => tl) h2).pt h1) (sndSs gs tl a x h3) (sndSs gs tl b y h4)
    | _ => cases h
  | .whl c b, st, h => by
    cases st with
    | While t x y pos =>
      cases y with
      | nil =>
        simp only [chkS, Bool.and_eq_true] at h
        obtain ⟨⟨h1, h2⟩, h3⟩ := h
        exact l_whl gs ((sndE c X sc _ E t gs.good (fun _ => tl) h2).pt h1) (sndSs gs tl b x h3)
      | cons _ _ => cases h
    | _ => cases h
  | .for_ t it src b, st, h => by
    cases st with
    | For tg iter x y pos =>
      cases y with
      | nil =>
        simp only [chkS, Bool.and_eq_true] at h
        obtain ⟨⟨⟨⟨h1, h2⟩, h3⟩, h4⟩, h5⟩ := h
        cases hi' : itB G sc it iter with
        | none => rw [hi'] at h4; cases h4
        | some l =>
          rw [hi'] at h4
          have hs := sndL src X sc _ E l gs.good (fun _ => tl) h4
          have hpr : it.pr = true → ∃ is, t = .tp is := fun z => by
            cases it <;> first | (cases z; done) | skip
            cases t with
            | nm _ => cases h1
            | tp is => exact ⟨is, rfl⟩
          have hen : it = .enum → ∃ elts kk tpos, tg = .Tuple elts kk tpos := fun z => by
            subst z
            cases t with
            | nm _ => cases h1
            | tp is =>
              cases tg with
              | Tuple a b c => exact ⟨a, b, c, rfl⟩
              | _ => cases h3
          exact l_for gs h3 hpr (l_it gs.good hi' hen hs) (sndSs gs tl b x h5) (folded_plain h2)
      | cons _ _ => cases h
    | _ => cases h
  | .rai c, st, h => by
    cases st with
    | Raise v w pos =>
      match v, w, h with
      | some v, none, h =>
        simp only [chkS, Bool.and_eq_true, decide_eq_true_eq] at h
        obtain ⟨⟨⟨h1, h2⟩, h3⟩, h4⟩ := h
        obtain ⟨p, m, j, p2, p3, rfl⟩ := rai_view h1
        exact l_rai gs (gs.excs _ h4) h2 h3
    | _ => cases h
theorem sndSs (gs : GoodS G ca X sc k Φ E) (tl : ToldOk G ca Φ X sc E) : ∀ (s : CSs) (st : List Stmt), chkSs G X.N sc s st = true → PSs X st (tSs ca E Φ s)
  | .nil, st, h => by
    cases st with
    | nil => exact l_snil
    | cons _ _ => cases h
  | .cons s r, st, h => by
    cases st with
    | nil => cases h
    | cons st rest =>
      simp only [chkSs, Bool.and_eq_true] at h
      exact l_scons (sndS gs tl s st h.1) (sndSs gs tl r rest h.2)
end
end
end VW
end
section
set_option maxHeartbeats 2000000
/-! Defs: what the interpreter tells of a def is what the model does. -/
namespace VW
open PySem PySem.Spec L2
/-! ### behind a call the callee's own names are given up -/
section
variable {F F' : Addr → Prop} {π π' : List Addr} {H H' : Hp} {M M' : Mem}
/-- the lists that get frozen -/
def Given (F' : Addr → Prop) (π' : List Addr) (H' : Hp) (n : Nat) : Addr → Prop := fun a => F' a ∨ ∃ j, n ≤ j ∧ π'[j]? = some a ∧ ∃ vs, H' a = some (.lst vs)
theorem take_get {n i : Nat} {a : Addr} (h : π'[i]? = some a) (hi : i < n) : (π'.take n)[i]? = some a := by
  rw [List.getElem?_take_of_lt hi]; exact h
theorem take_get' {n i : Nat} {a : Addr} (h : (π'.take n)[i]? = some a) : π'[i]? = some a ∧ i < n := by
  by_cases hi : i < n
  · rw [List.getElem?_take_of_lt hi] at h; exact ⟨h, hi⟩
  · rw [List.getElem?_eq_none (by rw [List.length_take]; omega)] at h; cases h
theorem Le.given (n : Nat) : Le F' H' (Given F' π' H' n) H' := ⟨fun _ z => .inl z, fun _ _ _ z _ => z, fun _ _ _ z => z, fun _ _ z => z⟩
theorem Post.given (m : MemR F' π' H' M') (p : Post F π H F' π' H') : Post F π H (Given F' π' H' π.length) (π'.take π.length) H' where
  le := p.le.trans (Le.given _)
  pre := fun n a h => take_get (p.pre n a h) (List.getElem?_eq_some_iff.mp h).1
  keep := p.keep
  there := p.there
  newF := fun a z => z.elim (p.newF a) fun ⟨j, hj, e, _⟩ => (p.newP a (List.mem_of_getElem? e)).elim (fun hm => by
    obtain ⟨i, hi, e2⟩ := List.mem_iff_getElem.mp hm
    have e3 := p.pre i a (by rw [List.getElem?_eq_getElem hi, e2])
    have := nd_ix m.nd e e3
    omega) .inr
  newP := fun a z => p.newP a (List.mem_of_mem_take z)
theorem NmR.cut {n : Nat} : ∀ {vs : List V} {ns : List Nat}, NmR π' vs ns → ns.all (· < n) = true → NmR (π'.take n) vs ns
  | _, _, .nil, _ => .nil
  | _, _, .cons e t, h => by
    simp only [List.all_cons, Bool.and_eq_true, decide_eq_true_eq] at h
    exact .cons (take_get e h.1) (t.cut h.2)
theorem MemR.given {n : Nat} (m : MemR F' π' H' M') (hb : (M'.take n).all (Cell.below n) = true) : MemR (Given F' π' H' n) (π'.take n) H' (M'.take n) where
  len := by rw [List.length_take, List.length_take, m.len]
  nd := m.nd.sublist (List.take_sublist _ _)
  nf := fun a ha z => by
    rcases z with z | ⟨j, hj, e, _⟩
    · exact m.nf a (List.mem_of_mem_take ha) z
    · obtain ⟨i, hi, e2⟩ := List.mem_iff_getElem.mp ha
      have e3 := take_get' (show (π'.take n)[i]? = some a by rw [List.getElem?_eq_getElem hi, e2])
      have := nd_ix m.nd e e3.1
      omega
  ft := fun a z => z.elim (m.ft a) fun ⟨j, _, _, vs, e⟩ => ⟨_, e, nt_lst⟩
  tb := fun i P q h => by
    by_cases hi : i < n
    · rw [List.getElem?_take_of_lt hi] at h; exact m.tb i P q h
    · rw [List.getElem?_eq_none (by rw [List.length_take]; omega)] at h; cases h
  cell := fun i c a hc ha => by
    obtain ⟨ha, hi⟩ := take_get' ha
    have hbc : c.below n = true := List.all_eq_true.mp hb c (List.mem_of_getElem? hc)
    have hc : M'[i]? = some c := by rw [List.getElem?_take_of_lt hi] at hc; exact hc
    have q := m.cell i c a hc ha
    cases c with
    | pl ds => obtain ⟨vs, h, r⟩ := q; exact ⟨vs, h, r.mono (Le.given n)⟩
    | rl ns => obtain ⟨vs, h, r⟩ := q; exact ⟨vs, h, r.cut hbc⟩
    | dct _ => exact q.elim
    | ins _ _ => exact q.elim
    | tab P q' => exact q
theorem lists_rp {n : Nat} (m : MemR F' π' H' M') : ∀ {vs : List V} {ns : List Nat} {ds : List D}, NmR π' vs ns → ns.all (n ≤ ·) = true → lists M' ns = some ds → RpDs (Given F' π' H' n) H' vs ds
  | _, _, _, .nil, _, h => by cases h; exact .nil
  | _, k :: ns, ds, .cons e t, ha, h => by
    simp only [List.all_cons, Bool.and_eq_true, decide_eq_true_eq] at ha
    simp only [lists] at h
    split at h
    · rename_i ds0 r0 h1 h2
      cases h
      obtain ⟨vs', hv, rd⟩ := m.cell k _ _ h1 e
      exact .cons (.lst (.inr ⟨k, ha.1, e, _, hv⟩) hv (rd.mono (Le.given n))) (lists_rp m t ha.2 h2)
    · cases h
theorem frz_rp {n : Nat} (m : MemR F' π' H' M') {v : V} {u u' : U} (r : RpU F' π' H' v u) (h : frz M' n u = some u') : RpU (Given F' π' H' n) (π'.take n) H' v u' := by
  cases r with
  | p r => cases h; exact .p (r.mono (Le.given n))
  | ref e =>
    rename_i k a
    simp only [frz] at h
    split at h
    · rename_i hk
      cases h
      exact .ref (take_get e hk)
    · rename_i hk
      split at h
      · rename_i ds hc
        cases h
        obtain ⟨vs, hv, rd⟩ := m.cell k _ _ hc e
        exact .p (.lst (.inr ⟨k, by omega, e, _, hv⟩) hv (rd.mono (Le.given n)))
      · rename_i ns hc
        split at h
        · rename_i ha
          obtain ⟨vs, hv, rd⟩ := m.cell k _ _ hc e
          cases hl : lists M' ns with
          | none => rw [hl] at h; cases h
          | some ds =>
            rw [hl] at h
            cases h
            exact .p (.lst (.inr ⟨k, by omega, e, _, hv⟩) hv (lists_rp m rd ha hl))
        · cases h
      · cases h
  | rl f e q =>
    simp only [frz] at h
    split at h
    · rename_i ha
      cases h
      exact .rl (.inl f) e (q.cut ha)
    · cases h
  | scr e q =>
    cases h
    exact .scr ((Le.given (F' := F') (π' := π') (H' := H') n).scr e) (q.mono (Le.given n))
end
/-- the entry of a def -/
theorem env_start {F : Addr → Prop} {π : List Addr} {H : Hp} {N : List Str} {vs : List V} {us : List U} (r : RpUs F π H vs us) : EnvR F π H (us.map some ++ List.replicate (N.length - us.length) none) (L2.start N vs) := by
  refine ⟨?_, fun i u h => ?_⟩
  · unfold L2.start
    simp only [List.length_append, List.length_map, List.length_replicate, r.length]
  · by_cases hi : i < us.length
    · rw [List.getElem?_append_left (by simpa using hi), List.getElem?_map] at h
      cases e : us[i]? with
      | none => rw [e] at h; cases h
      | some u' =>
        rw [e] at h
        cases h
        obtain ⟨v, hv, q⟩ := r.get e
        refine ⟨v, ?_, q⟩
        unfold L2.start
        rw [List.getElem?_append_left (by simpa [r.length] using hi), List.getElem?_map, hv]
        rfl
    · rw [List.getElem?_append_right (by simpa using Nat.le_of_not_lt hi), List.getElem?_replicate] at h
      split at h <;> cases h
/-- from what a call tells to what the body does -/
theorem body_out {ca : Str → Addr} {E : XK} {F : Addr → Prop} {π : List Addr} {H : Hp} {M : Mem} {Q : VK} {keep : Bool} {r : SR} (hm : MemR F π H M)
    (h : Out ca E F π H (match r with
      | .ret u M' => leave M.length keep u M'
      | .next _ M' => leave M.length keep (.p .none) M'
      | .exc c M' => leaveX M.length keep c M'
      | .bad => .bad) (VQ F π H Q)) : OutS ca E F π H { nx := fun _ H' => Q .non H', rt := Q } r := by
  have hl : M.length = π.length := hm.len.symm
  have key : ∀ (u : U) (M' : Mem), Out ca E F π H (leave M.length keep u M') (VQ F π H Q) → ∀ v F' π' H', Post F π H F' π' H' → MemR F' π' H' M' → RpU F' π' H' v u → Q v H' := fun u M' z v F' π' H' p m q => by
    unfold leave at z
    split at z
    · exact z v F' π' H' p m q
    · split at z
      · rename_i hb
        obtain ⟨u', hu, w⟩ := z.of
        rw [hl] at hb hu w
        exact w v _ _ H' (p.given m) (m.given hb) (frz_rp m q hu)
      · exact False.elim z
  cases r with
  | ret u M' => exact fun v F' π' H' p m q => key u M' h v F' π' H' p m q
  | next ρ M' => exact fun σ' F' π' H' p m q => key (.p .none) M' h .non F' π' H' p m (.p .non)
  | exc c M' =>
    intro F' π' H' p m
    have h : Out ca E F π H (leaveX M.length keep c M') (VQ F π H Q) := h
    unfold leaveX at h
    split at h
    · exact h F' π' H' p m
    · split at h
      · rename_i hb
        rw [hl] at hb h
        exact h _ _ H' (p.given m) (m.given hb)
      · exact False.elim h
  | bad => exact False.elim h
/-! ### a table of defs -/
structure Entry where
  name : Str
  st : Stmt
  d : CDef
def tblOf (T : List Entry) : List (Str × CDef) := T.map fun e => (e.name, e.d)
def arOf (T : List Entry) : List (Str × List Str) := T.map fun e => (e.name, e.d.ps)
def fnScopeB (N P : List Str) (sc : Scope) : Bool := decide (sc.kind = .function) && !sc.isCoroutine && !sc.isGenerator && decide N.Nodup && decide (N.take P.length = P) && P.all (fun x => decide (sc.names.lookup x = some .local) || decide (sc.names.lookup x = some .cell)) && sc.names.all fun y => !decide (y.2 = .free)
theorem fnScope_of {N P : List Str} {sc : Scope} (h : fnScopeB N P sc = true) : FnScope N P sc := by
  unfold fnScopeB at h
  simp only [Bool.and_eq_true, decide_eq_true_eq, Bool.not_eq_true', List.all_eq_true, Bool.or_eq_true, decide_eq_false_iff_not] at h
  obtain ⟨⟨⟨⟨⟨⟨h1, h2⟩, h3⟩, h4⟩, h5⟩, h6⟩, h7⟩ := h
  exact ⟨h1, h2, h3, h4, h5, h6, h7⟩
def chkD (G : St0) (e : Entry) : Bool := fnScopeB e.d.N e.d.ps (defScope e.st) && chkSs G e.d.N (defScope e.st) e.d.body (defBody e.st)
theorem lookup_tbl {f : Str} : ∀ {T : List Entry} {ps : List Str}, (arOf T).lookup f = some ps → ∃ e ∈ T, e.name = f ∧ ps = e.d.ps ∧ (tblOf T).lookup f = some e.d
  | [], ps, h => by cases h
  | e :: T, ps, h => by
    simp only [arOf, tblOf, List.map_cons, List.lookup_cons] at h ⊢
    cases hf : f == e.name with
    | true =>
      rw [hf] at h
      cases h
      exact ⟨e, List.mem_cons_self, (by simpa using hf : f = e.name).symm, rfl, rfl⟩
    | false =>
      rw [hf] at h
      obtain ⟨e', h1, h2, h3, h4⟩ := lookup_tbl (T := T) h
      exact ⟨e', List.mem_cons_of_mem _ h1, h2, h3, h4⟩
/-- what the head tells -/
structure World1 (G : St0) (ca : Str → Addr) (T : List Entry) (K : PySem.W.Frag) (mg : Str → Option Value) : Prop where
  told : G.told = none
  ar : G.ar = arOf T
  chk : T.all (chkD G) = true
  free : ∀ x ∈ G.free, mg x = none
  glob : ∀ x d, G.consts.lookup x = some d → ∃ v u, mg x = some u ∧ RelV v u ∧ ∀ F H, RpD F H v d
  excs : ∀ x ∈ G.excs, ExcK K mg x (ca x)
  fns : ∀ e ∈ T, ∃ f fd, mg e.name = some (.ref f) ∧ FunD K e.name e.name (defArgs e.st) (defBody e.st) (defScope e.st) [] [] f fd ∧ Binds K fd e.d.ps []
theorem spI_len {ca : Str → Addr} {φ : List U → Mem → R U} {ps : List Str} {vs : List V} {H : Hp} {Q : VK} {E : XK} (h : spI ca φ ps vs H Q E) : vs.length = ps.length := by
  obtain ⟨F, π, M, us, _, r, hl, _⟩ := h
  rw [r.length, hl]
theorem fns_ok {G : St0} {ca : Str → Addr} {T : List Entry} {P : Program} {w : World} {K : PySem.W.Frag} {mg : Str → Option Value} {base : Heap} (W : World1 G ca T K mg) :
    ∀ (k : Nat) (f : Str) (ps : List Str), G.ar.lookup f = some ps → ∃ fa fd, mg f = some (.ref fa) ∧ PySem.W.keepIn K (.ref fa) = true ∧ Binds K fd ps [] ∧ FnOk P w K mg base (L2N.CX P w) k fa fd ps (spI ca (run (tblOf T) k f) ps) := by
  intro k
  induction k with
  | zero =>
    intro f ps hf
    rw [W.ar] at hf
    obtain ⟨e, he, rfl, rfl, _⟩ := lookup_tbl hf
    obtain ⟨fa, fd, h1, h2, h3⟩ := W.fns e he
    exact ⟨fa, fd, h1, h2.kp, h3, fun _ _ _ _ h => spI_len h, fun A outer s H args us vs Q E _ _ _ _ ⟨F, π, M, us', _, _, _, z⟩ => False.elim z⟩
  | succ k ih =>
    intro f ps hf
    have hf' := hf
    rw [W.ar] at hf'
    obtain ⟨e, he, rfl, rfl, hl⟩ := lookup_tbl hf'
    obtain ⟨fa, fd, h1, h2, h3⟩ := W.fns e he
    have hc := List.all_eq_true.mp W.chk e he
    unfold chkD at hc
    rw [Bool.and_eq_true] at hc
    have S := fnScope_of hc.1
    refine ⟨fa, fd, h1, h2.kp, h3, h2.ok S (fun _ _ _ _ h => spI_len h) fun cdv A outer s H vs Q E hr h => ⟨tSs ca E (run (tblOf T) k) e.d.body, ?_, ?_⟩⟩
    · have tk : L2N.Takes (cxOf (L2N.CX P w) P w K mg base e.d.N e.name (defScope e.st) fa cdv A outer s H E) (fun cls d _ H => E cls d H) := L2N.takes_of rfl rfl rfl rfl
      refine sndSs (G := G) (k := k) (sc := defScope e.st) ⟨⟨rfl, S.nd, rfl, fun _ _ => rfl, hr, L2N.passes_call tk fun _ _ _ _ z => z, W.free, W.glob, fun f ps hf => ih f ps hf⟩, tk, passes_of rfl, S.kind, W.excs⟩ (fun x t g ps cs e l scope params p1 p2 p3 p4 p5 ht => by rw [W.told] at ht; cases ht) _ _ hc.2
    · obtain ⟨F, π, M, us, hm, r, hul, z⟩ := h
      simp only [run, hl, runDef, hul, if_true] at z
      exact ⟨F, π, _, M, env_start r, hm, by rw [hul]; exact body_out hm z⟩
end VW
end
section
set_option maxHeartbeats 2000000
/-! While an exception is handled: the end of a list's walk, sum, a comprehension over a list. -/
namespace VW
open PySem PySem.Spec PyProof.Rows L2 HotX L2H
section
variable {prog : Program} {w : World} {A : Around} {E : Value → Shared → Prop} {s : Shared}
theorem endHot {it l x1 : Addr} {i : Nat} {items : Array Value} {Q : Option Value → Shared → Prop} (hot : HotAt A x1 s.heap) (hne : x1 ≠ it)
    (st : s.heap.IsListIter it l i) (hl : s.heap.IsList l items) (hx : items[i]? = none)
    (hQ : ∀ h', (∀ b o, b ≠ it → s.heap.get? b = some o → h'.get? b = some o) → Q none { s with heap := h' }) : wpAny (model prog w) A (pyNext (.ref it)) Q E s := by
  obtain ⟨oi, hoi, ci, di⟩ := id st
  obtain ⟨ol, hol, _, nl, dl⟩ := hl
  obtain ⟨hh, o1, vs1, h1, d1, c1⟩ := hot
  unfold pyNext
  refine wpAny_bind (wpAny_attempt ?_)
  refine wpAny_callSpecial?_slot (name := Str.ofString "__next__") st.typeIs slot_listiter_next ?_
  refine wpAny_call_entry slot_listiter_next st.typeIs entry_listiter_next ?_ (args_listiter_next _)
  show wpAny _ _ (field (.ref it) 0 >>= _) _ _ s
  refine wpAny_bind (wpAny_field hoi di (x := .ref l) rfl ?_)
  have nn : ¬ ((Value.ref l == Value.none) = true) := Bool.false_ne_true
  show wpAny _ _ (if (Value.ref l == Value.none) = true then _ else _) _ _ s
  rw [if_neg nn]
  show wpAny _ _ (field (.ref it) 1 >>= _) _ _ s
  refine wpAny_bind (wpAny_field hoi di (x := .int i 0) rfl ?_)
  show wpAny _ _ (seqItems? (.ref l) >>= _) _ _ s
  refine wpAny_bind (wpAny_seqItems hol dl ?_)
  simp only [Int.toNat_natCast, hx]
  refine wpAny_bind (wpAny_rule (wpAny_bind (wpAny_setField hoi di (by simp) ?_)))
  show wpAny _ _ (newExc (.type "StopIteration") [] >>= _) _ _ _
  refine wpAny_bind ?_
  simp only [newExc, newTuple]
  refine wpAny_bind (wpAny_newObj_type ?_ (by size_fits))
  refine wpAny_bind (m := firstArgMember _ _) (wpAny_of_eq (a := Value.none) (by first | rfl | (simp only [firstArgMember]; rfl)) ?_)
  refine wpAny_newObj_type ?_ (by size_fits)
  have h1' : (s.heap.update it (Obj.mapFields (·.setIfInBounds 0 Value.none))).get? x1 = some o1 := (Heap.get?_update_other _ _ (Ne.symm hne)).trans h1
  refine raiseNew_hot (x1 := x1) ⟨hh, o1, vs1, Heap.get?_push_of_some _ (Heap.get?_push_of_some _ h1'), d1, c1⟩ (Nat.ne_of_lt (Heap.lt_size (Heap.get?_push_of_some _ h1'))) (Heap.get?_push_size _ rfl) rfl (by first | (simp; done) | (simp; omega)) ?_
  refine wpAny_bind (wpAny_isInstance (T := "StopIteration") (b := true) ⟨_, Heap.get?_update_self _ (Heap.get?_push_size _ rfl) rfl, rfl⟩ isSubtype_stop ?_)
  refine wpAny_pure (hQ _ fun b o hb e => ?_)
  have e1 : (s.heap.update it (Obj.mapFields (·.setIfInBounds 0 Value.none))).get? b = some o := (Heap.get?_update_other _ _ (Ne.symm hb)).trans e
  rw [Heap.get?_update_other _ _ (Nat.ne_of_gt (Heap.lt_size (Heap.get?_push_of_some _ e1)))]
  exact Heap.get?_push_of_some _ (Heap.get?_push_of_some _ e1)
/-- a list is walked, an exception is handled -/
theorem walksH {it l x1 : Addr} {o1 : Obj} {vs1 : Array Value} {items : Array Value} (hh : A.handled = some (.ref x1)) (d1 : o1.data = .fields vs1) (c1 : vs1[2]? = some .none) (n1 : x1 ≠ it) (n2 : l ≠ it) :
    Walks prog w A it [it, l, x1] [it] items.size (fun i v => items[i]? = some v) (fun i h => h.IsListIter it l i ∧ h.IsList l items ∧ h.get? x1 = some o1) where
  sub := fun b hb => by rw [List.mem_singleton.mp hb]; exact List.mem_cons_self
  frame := fun i h h' ⟨a, b, c⟩ k => ⟨a.at fun o e => k it List.mem_cons_self o e, b.at fun o e => k l (by simp) o e, k x1 (by simp) _ c⟩
  item := fun i s Q E hi ⟨a, b, c⟩ hQ => by
    refine wpAny_pyNext_list_item a b (x := items[i]) (by simp [hi]) fun h' st' sb => ?_
    refine hQ _ h' s.toks (by simp [hi]) ⟨st', b.at fun o e => (sb.2 l n2).trans e, (sb.2 x1 n1).trans c⟩ fun q o hq e => (sb.2 q (fun z => hq (by rw [z]; exact List.mem_cons_self))).trans e
  done := fun s Q E ⟨a, b, c⟩ hQ => endHot ⟨hh, o1, vs1, c, d1, c1⟩ n1 a b (by simp) fun h' k => hQ h' s.toks fun q o hq e => k q o (fun z => hq (by rw [z]; exact List.mem_cons_self)) e
  self := fun i s Q E ⟨a, _, _⟩ h => wpAny_pyIter_listiter a h
end
theorem preSum_take (ns : List Int) : ∀ k, k ≤ ns.length → preSum (fun i => ns.getD i 0) k = (ns.take k).sum
  | 0, _ => by simp [preSum]
  | k + 1, h => by
    have hk : k < ns.length := h
    rw [preSum, preSum_take ns k (Nat.le_of_lt hk), List.take_succ_eq_append_getElem hk, List.sum_append]
    simp [List.getD_eq_getElem?_getD, List.getElem?_eq_getElem hk]
theorem sum_bits : ∀ (ns : List Int), (∀ n ∈ ns, 0 ≤ n ∧ n ≤ 1) → 0 ≤ ns.sum ∧ ns.sum ≤ ns.length
  | [], _ => by simp
  | n :: ns, h => by
    have h1 := h n List.mem_cons_self
    have h2 := sum_bits ns fun m hm => h m (List.mem_cons_of_mem _ hm)
    simp only [List.sum_cons, List.length_cons]
    omega
def rSumH : List V → Hp → VK → Prop := fun vs H Q => ∃ (a : Addr) (ns : List Int), vs = [V.ref a] ∧ H a = some (.lst (ns.map V.int)) ∧ (∀ n ∈ ns, 0 ≤ n ∧ n ≤ 1) ∧ ns.length ≤ 1000 ∧ Q (.int ns.sum) H
theorem sumH {X : Cx} (hc : HotC X) : CallR X (.builtin "sum") rSumH := by
  intro pins s σ H vs us Q I r h
  obtain ⟨a, ns, rfl, ha, hb, hl, q⟩ := h
  obtain ⟨x1, hh, o1, vs1, g1, d1, c1⟩ := hc.at I
  obtain ⟨its, rv, isl, hz⟩ := I.list (.inl (.inl ha))
  rw [Vals.ref1 r]
  have ri := rv.ints
  have len : its.length = ns.length := by have := rv.length; simpa using this.symm
  have lt1 : x1 < s.heap.objs.size := Heap.lt_size g1
  have lt2 : a < s.heap.objs.size := by obtain ⟨o, ho, _⟩ := isl.isList; exact Heap.lt_size ho
  refine call_sum_walk (A := X.A) (wpAny_pyIter_list isl.isList ?_)
  refine ⟨s.heap.objs.size, _, _, its.toArray.size, _, _, fun i => ns.getD i 0, rfl, walksH (A := X.A.in1) (items := its.toArray) (x1 := x1) (o1 := o1) hh d1 c1 (Nat.ne_of_lt lt1) (Nat.ne_of_lt lt2), ⟨⟨_, Heap.get?_push_size _ rfl, rfl, rfl⟩, isl.isList.at fun o e => Heap.get?_push_of_some _ e, Heap.get?_push_of_some _ g1⟩, fun b hb => ?_, fun i v hv => ?_, fun j hj => ?_, fun h' tk t' k => ?_⟩
  · rw [Heap.size_push]
    rcases List.mem_cons.mp hb with z | hb
    · rw [z]; exact Nat.lt_succ_self _
    · rcases List.mem_cons.mp hb with z | hb
      · rw [z]; exact Nat.lt_succ_of_lt lt2
      · rw [List.mem_singleton.mp hb]; exact Nat.lt_succ_of_lt lt1
  · have hv : its[i]? = some v := by simpa using hv
    have hi : i < ns.length := by rw [← len]; exact (List.getElem?_eq_some_iff.mp hv).1
    obtain ⟨u, e, t, ru⟩ := rv.get (i := i) (x := V.int ns[i]) (by simp [hi])
    rw [hv] at e
    cases e
    exact ⟨t, by rw [ru]; simp [List.getD_eq_getElem?_getD, List.getElem?_eq_getElem hi]⟩
  · have hj : j < ns.length := by rw [← len]; simpa using hj
    have h1 := hb (ns[j]) (List.getElem_mem hj)
    have h2 := sum_bits (ns.take (j + 1)) fun m hm => hb m (List.mem_of_mem_take hm)
    rw [preSum_take ns (j + 1) hj]
    have e : ns.getD j 0 = ns[j] := by simp [List.getD_eq_getElem?_getD, List.getElem?_eq_getElem hj]
    show InLong (ns.getD j 0) ∧ _
    rw [e]
    have h3 : (ns.take (j + 1)).length ≤ 1000 := by rw [List.length_take]; omega
    unfold InLong
    omega
  · refine ⟨.int ns.sum, H, I.kept (t' := tk) fun b o e => k b o (fun z => Nat.lt_irrefl _ (by have := Heap.lt_size e; rw [List.mem_singleton.mp z] at this; exact this)) (Heap.get?_push_of_some _ e), ⟨t', ?_⟩, q⟩
    have e : its.toArray.size = ns.length := by simpa using len
    rw [e, preSum_take ns _ (Nat.le_refl _), List.take_length]
end VW
end
section
set_option maxHeartbeats 2000000
/-! [int(y) for y in flags] while an exception is handled. -/
namespace VW
open PySem PySem.Spec PyProof.Rows L2 HotX L2H
def bit (b : Bool) : Int := if b then 1 else 0
/-- what the comprehension is asked: a list of bools; it tells the list of their numbers -/
def tBits (ta : TE) : TE := fun σ H Q => ta σ H fun v H1 => ∃ (a : Addr) (bs : List Bool), v = .ref a ∧ H1 a = some (.lst (bs.map V.bl)) ∧ ∀ D, H1 D = none → Q (.ref D) (upd H1 D (.lst (bs.map fun b => V.int (bit b))))
def tBit (j : Nat) : TE := fun σ H Q => ∃ b, σ[j]? = some (some (.bl b)) ∧ Q (.int (bit b)) H
theorem lcHot {X : Cx} (hc : HotC X) (hN : X.N.Nodup) {iter e : Expr} {ta : TE} {scope : Scope} {y : Str} {j : Nat} {pos py : Pos} (hi : PE X iter ta) (ok : BlkOk X.N X.env.scope scope [(y, j)]) (hl : (relS scope X.env.scope).names.lookup y = some .local)
    (he : ∀ (s : Shared) (H : Hp) (C : Addr) (cl : List (Str × Addr)) (fp : List Addr), PE (X.blk s H scope (compEnvC scope cl C X.env) fp) e (tBit j)) (hs : ∀ x, foldedSetIterable iter X.env x = pure x) :
    PE X (.ListComp e [⟨.Name y py, iter, [], 0⟩] scope pos) (tBits ta) := by
  refine ⟨fun pins s σ H Q I h => ?_⟩
  obtain ⟨px, hot1, hpx⟩ := hc
  have hfree : ∀ z ∈ scope.names, z.2 = .free → ∃ c, X.env.cells.lookup z.1 = some c := fun z hz ez => (ok.free z hz ez).elim (fun k => I.ok.has _ (.inl k)) fun k => I.ok.has _ (.inr k)
  have hj : X.N[j]? = some y := ok.ix (y, j) List.mem_cons_self
  rw [eval_ListComp]
  refine wpAny_comprehension_free (use := none) rfl hs (closure_ok hfree) ok.kind (fun z hz ez => by rw [ok.uniq z hz, ez]) (thn (hi.run pins s σ H _ I h) fun xv s1 hx => ?_)
  obtain ⟨v, H1, I1, r1, a, bs, rfl, ha, q⟩ := hx
  obtain rfl : xv = Value.ref a := r1
  obtain ⟨its, rv, isl, hz⟩ := I1.list (.inl (.inl ha))
  have lenI : its.length = bs.length := by have := rv.length; simpa using this.symm
  refine wpAny_pyIter_list isl.isList ?_
  -- the iterator
  generalize hit : s1.heap.objs.size = it
  have nit : H1 it = none := I1.hok.fresh (Nat.le_of_eq hit)
  generalize hs2 : ({ s1 with heap := s1.heap.push { cls := .type "list_iterator", data := .fields #[.ref a, .int 0 0] } } : Shared) = s2
  have k12 : ∀ b o, s1.heap.get? b = some o → s2.heap.get? b = some o := fun b o z => by rw [← hs2]; exact Heap.get?_push_of_some _ z
  have I2 : Inv X pins σ H1 s2 := by rw [← hs2]; exact I1.kept (t' := s1.toks) fun b o z => Heap.get?_push_of_some _ z
  have st2 : s2.heap.IsListIter it a 0 := by rw [← hs2, ← hit]; exact ⟨_, Heap.get?_push_size _ rfl, rfl, rfl⟩
  have fit : FpOk X pins H1 it := I1.fpOk (Nat.le_of_eq hit) nit
  have lit : it < s2.heap.objs.size := by obtain ⟨o, z, _⟩ := st2; exact Heap.lt_size z
  -- the new list
  refine wpAny_newObj_type (newEnv_comp ?_) (by show 0 ≤ sizeLine; decide)
  generalize hD : s2.heap.objs.size = D
  have nD : H1 D = none := I2.hok.fresh (Nat.le_of_eq hD)
  generalize hs3 : ({ s2 with heap := s2.heap.push { cls := .type "list", data := .seq ([] : List Value).toArray } } : Shared) = s3
  have k23 : ∀ b o, s2.heap.get? b = some o → s3.heap.get? b = some o := fun b o z => by rw [← hs3]; exact Heap.get?_push_of_some _ z
  have I3 : Inv X pins σ (upd H1 D (.lst [])) s3 := by
    rw [← hs3]
    refine I2.laid (t' := s2.toks) (fun b o z => Heap.get?_push_of_some _ z) (Nat.le_of_eq hD) ⟨Nat.zero_le _, [], 0, .nil, ?_⟩
    rw [← hD]
    exact Heap.get?_push_size _ rfl
  have neD : it ≠ D := by rw [← hD]; exact Nat.ne_of_lt lit
  have naD : a ≠ D := ne_of_none ha nD
  have fit3 : FpOk X pins (upd H1 D (.lst [])) it := ⟨by rw [upd_ne neD]; exact nit, fit.2⟩
  have I4 := block_start (fp := [it]) I3 ok hN (fun b hb => by
    rw [List.mem_singleton.mp hb]
    refine ⟨fit3, ?_⟩
    obtain ⟨o, z, _⟩ := st2
    exact Heap.lt_size (k23 _ _ z))
  have pe := he s3 (upd H1 D (.lst [])) s3.heap.objs.size (cellsFrom (s3.heap.objs.size + 1) scope.names (cloFrom X.env.cells scope.names [])) [it]
  have hlc : ∀ cl C, (compEnvC scope cl C X.env).scope.names.lookup y = some .local := fun cl C => hl
  show codeAny _ _ (.compStart (.ListComp e [⟨.Name y py, iter, [], 0⟩] scope pos) 0 (.ref it) (.ref D) (compEnvC scope (cellsFrom (s3.heap.objs.size + 1) scope.names (cloFrom X.env.cells scope.names [])) s3.heap.objs.size X.env)) (compPost (model X.prog X.w) X.A X.xe none _ (.ref D) s3.heap.objs.size) { s3 with heap := pushCells (s3.heap.push { cls := .type "dict", data := .dict #[] }) scope.names }
  have hly := hlc (cellsFrom (s3.heap.objs.size + 1) scope.names (cloFrom X.env.cells scope.names [])) s3.heap.objs.size
  generalize hce : compEnvC scope (cellsFrom (s3.heap.objs.size + 1) scope.names (cloFrom X.env.cells scope.names [])) s3.heap.objs.size X.env = ce at I4 pe hly ⊢
  have cL : ce.locals = s3.heap.objs.size := by subst hce; rfl
  generalize hs4 : ({ s3 with heap := pushCells (s3.heap.push { cls := .type "dict", data := .dict #[] }) scope.names } : Shared) = s4 at I4 ⊢
  have k34 : ∀ b o, s3.heap.get? b = some o → s4.heap.get? b = some o := fun b o z => by rw [← hs4]; exact pushCells_keeps _ _ _ _ (Heap.get?_push_of_some _ z)
  have st4 : s4.heap.IsListIter it a 0 := st2.at fun o z => k34 _ _ (k23 _ _ z)
  -- the exception that is handled stands throughout
  have P1 := I3.pin px (List.mem_append_left _ hpx)
  have nfs : px.1 ∉ frs X.stack := fun hm => (List.mem_cons.mp (I3.stkSub px.1 hm)).elim P1.2.2.1 P1.2.2.2.1
  have npi : px.1 ≠ it := fun z => fit.2.2.2.2.2 px (List.mem_append_left _ hpx) z
  have hotAt : ∀ {pins' : List (Addr × Obj)} {σ' : L2.St} {H' : Hp} {s' : Shared}, Inv (X.blk s3 (upd H1 D (.lst [])) scope ce [it]) pins' σ' H' s' → HotAt X.A px.1 s'.heap := fun {pins' σ' H' s'} J => by
    obtain ⟨hh, vs1, e1, c1⟩ := hot1
    refine ⟨hh, px.2, vs1, J.base.keep px.1 px.2 P1.1 P1.2.1 ?_ ?_, e1, c1⟩
    · exact nfs
    · intro z
      exact npi (List.mem_singleton.mp z)
  have stat : ∀ {σ' : L2.St} {H' : Hp} {s' : Shared}, Inv (X.blk s3 (upd H1 D (.lst [])) scope ce [it]) [] σ' H' s' → H' it = none → FpOk (X.blk s3 (upd H1 D (.lst [])) scope ce [it]) [] H' it := fun {σ' H' s'} J hn =>
    ⟨hn, (J.ok.exf it List.mem_cons_self).1, J.ok.exfs it List.mem_cons_self, .inl List.mem_cons_self, fun x c z => (J.ok.exf it List.mem_cons_self).2 x c z, fun p hp => absurd (show p ∈ ([] : List (Addr × Obj)) ++ [] from hp) (by simp)⟩
  have loop : codeAny (model X.prog X.w) X.A (.compLoop (.ListComp e [⟨.Name y py, iter, [], 0⟩] scope pos) 0 (.ref it) (.ref D) ce) (compPost (model X.prog X.w) X.A X.xe none (EP X pins σ Q) (.ref D) s3.heap.objs.size) s4 := by
    refine compLoop_any (fun n s' => ∃ i, n = bs.length - i ∧ i ≤ bs.length ∧ Inv (X.blk s3 (upd H1 D (.lst [])) scope ce [it]) [] (wipe σ [j]) (upd H1 D (.lst ((bs.take i).map fun b => V.int (bit b)))) s' ∧ s'.heap.IsListIter it a i) ?_ bs.length ⟨0, rfl, Nat.zero_le _, I4, st4⟩
    rintro n s5 ⟨i, rfl, hil, I5, st5⟩
    have ha5 : upd H1 D (.lst ((bs.take i).map fun b => V.int (bit b))) a = some (.lst (bs.map V.bl)) := by rw [upd_ne naD]; exact ha
    have n5 : upd H1 D (.lst ((bs.take i).map fun b => V.int (bit b))) it = none := by rw [upd_ne neD]; exact nit
    obtain ⟨it5, rv5, isl5, _⟩ := I5.list (.inl (.inl ha5))
    have len5 : it5.length = bs.length := by have := rv5.length; simpa using this.symm
    obtain ⟨f0, f1, f2, f3, f4, f5⟩ := stat I5 n5
    by_cases hlt : i < bs.length
    · -- an item
      obtain ⟨u, hu, ru⟩ := rv5.get (i := i) (x := V.bl bs[i]) (by simp [hlt])
      refine wpAny_pyNext_list_item st5 isl5.isList (x := u) (by simpa using hu) fun h' st' sb => ?_
      have I6 : Inv (X.blk s3 (upd H1 D (.lst [])) scope ce [it]) [] (wipe σ [j]) _ { s5 with heap := h' } := I5.turned (t' := s5.toks) (fun b o hb z => (sb.2 b hb).trans z) f0 f1 f3 f4 f5
      obtain ⟨oi, ei, ci, di⟩ := id st'
      refine go_of (s := { s5 with heap := h' }) ei ci di (by decide) ?_
      have I6' := I6.pinned (fp := [it]) (fun b hb => by rw [List.mem_singleton.mp hb]; exact stat I6 n5) (fun b hb => by rw [List.mem_singleton.mp hb]; exact ⟨oi, ei, fun v z => by rw [di] at z; cases z⟩)
      have pg : PG (X.blk s3 (upd H1 D (.lst [])) scope ce [it]) (.Name y py) (gName j) := pg_name hN hj (.inl hly) (.inr hly)
      refine thnF (pg.run _ _ _ _ (.bl bs[i]) u (fun σ' H' => σ' = (wipe σ [j]).set j (some (.bl bs[i])) ∧ H' = upd H1 D (.lst ((bs.take i).map fun b => V.int (bit b)))) I6' ru ⟨rfl, rfl⟩) fun _ s7 ⟨σ7, H7, I7, e7, e7'⟩ => ?_
      subst e7 e7'
      refine wpAny_tests_nil ?_
      rw [if_pos rfl]
      have hσ : ((wipe σ [j]).set j (some (V.bl bs[i])))[j]? = some (some (V.bl bs[i])) := by
        rw [List.getElem?_set_self]
        rw [wipe_length, I.len]
        exact (List.getElem?_eq_some_iff.mp hj).1
      refine thnF (pe.run _ s7 _ _ (fun v H' => v = .int (bit bs[i]) ∧ H' = upd H1 D (.lst ((bs.take i).map fun b => V.int (bit b)))) I7 ⟨bs[i], hσ, rfl, rfl⟩) fun z s8 ⟨yv, H8, I8, r8, e8, e8'⟩ => ?_
      subst e8 e8'
      have hsz : bs.length ≤ sizeLine := by simpa using hz
      refine app_ok (X := X.blk s3 (upd H1 D (.lst [])) scope ce [it]) I8 upd_same (by rw [List.length_map, List.length_take]; omega) r8 fun s9 I9 => ?_
      have pin9 := I9.pin (it, oi) (List.mem_append_right _ (List.mem_append_right _ (mem_pinsAt List.mem_cons_self ei)))
      have eH : upd (upd H1 D (.lst ((bs.take i).map fun b => V.int (bit b)))) D (.lst ((bs.take i).map (fun b => V.int (bit b)) ++ [V.int (bit bs[i])])) = upd H1 D (.lst ((bs.take (i + 1)).map fun b => V.int (bit b))) := by
        rw [List.take_succ_eq_append_getElem hlt, List.map_append]
        funext b
        by_cases hb : b = D
        · subst hb; rw [upd_same, upd_same]; rfl
        · rw [upd_ne hb, upd_ne hb, upd_ne hb]
      rw [eH] at I9
      refine ⟨bs.length - (i + 1), by omega, i + 1, rfl, hlt, (I9.unpinned (pins := [])).weak (by simp [wipe]) (fun n v z => ?_), st'.at fun o z => ?_⟩
      · by_cases hn : j = n
        · subst hn
          have : (wipe σ [j])[j]? = some none := by
            refine wipe_none σ List.mem_cons_self ?_
            rw [I.len]
            exact (List.getElem?_eq_some_iff.mp hj).1
          rw [this] at z
          cases z
        · rw [List.getElem?_set_ne hn]
          exact z
      · have z' : oi = o := Option.some.inj (ei.symm.trans z)
        rw [← z']
        exact pin9.1
    · -- the end
      have hie : i = bs.length := by omega
      have nx : it5.toArray[i]? = none := by simp [len5]; omega
      refine endHot (hotAt I5) npi st5 isl5.isList nx fun h' eb => ?_
      have I6 : Inv (X.blk s3 (upd H1 D (.lst [])) scope ce [it]) [] (wipe σ [j]) _ { s5 with heap := h' } := I5.turned (t' := s5.toks) (fun b o hb z => eb b o hb z) f0 f1 f3 f4 f5
      have I7 : Inv X pins σ (upd H1 D (.lst ((bs.take i).map fun b => V.int (bit b)))) { s5 with heap := h' } := I3.call' (ch := [it]) I6.os I6.base I6.hok I6.bare fun b hb => by
        rw [List.mem_singleton.mp hb]
        exact ⟨fit3.2.2.2.1, fit3.2.1, fit3.2.2.2.2.1, fit3.2.2.2.2.2⟩
      have nC : upd H1 D (.lst ((bs.take i).map fun b => V.int (bit b))) s3.heap.objs.size = none := by
        have z := I6.free
        have z : upd H1 D (.lst ((bs.take i).map fun b => V.int (bit b))) ce.locals = none := z
        rw [cL] at z
        exact z
      obtain ⟨m, hn, _⟩ := I6.loc
      have hn : Heap.Ns h' ce.locals m := hn
      rw [cL] at hn
      obtain ⟨c0, c1, c2, c3, c4, c5⟩ := I3.fpOk (H' := upd H1 D (.lst ((bs.take i).map fun b => V.int (bit b)))) (Nat.le_refl _) nC
      refine ⟨m, hn, fun h'' sb => ⟨.ref D, _, I7.turned (t' := s5.toks) (fun b o hb z => (sb.2 b hb).trans z) c0 c1 c3 c4 c5, rfl, ?_⟩⟩
      have := q D nD
      rw [hie, List.take_length]
      exact this
  exact codeAny_compStart_list loop (wpAny_pyIter_listiter st4 loop)
end VW
end
section
set_option maxHeartbeats 2000000
/-! Small data while an exception is handled: the heap grows alone. -/
namespace VW
open PySem PySem.Spec PyProof.Rows L2 HotX L2H
inductive KD where
  | b (x : Bool)
  | i (n : Int)
  | s (x : Str)
  | bl (xs : List Bool)
  | sl (xs : List Str)
  | er (a : Addr)
def Rk (H : Hp) (v : V) : KD → Prop
  | .b x => v = .bl x
  | .i n => v = .int n
  | .s x => v = .str x
  | .bl xs => ∃ a, v = .ref a ∧ H a = some (.lst (xs.map V.bl))
  | .sl xs => ∃ a, v = .ref a ∧ H a = some (.lst (xs.map V.str))
  | .er a => v = .ref a
def Gr (H H' : Hp) : Prop := ∀ b o, H b = some o → H' b = some o
theorem Gr.refl {H : Hp} : Gr H H := fun _ _ h => h
theorem Gr.trans {H H1 H2 : Hp} (a : Gr H H1) (b : Gr H1 H2) : Gr H H2 := fun x o h => b x o (a x o h)
theorem Gr.laid {H : Hp} {a : Addr} {o : HO} (h : H a = none) : Gr H (upd H a o) := fun b u e => by rw [upd_ne (ne_of_none e h)]; exact e
theorem Rk.grow {H H' : Hp} {v : V} {d : KD} (g : Gr H H') (r : Rk H v d) : Rk H' v d := by
  cases d with
  | bl xs => obtain ⟨a, e, h⟩ := r; exact ⟨a, e, g _ _ h⟩
  | sl xs => obtain ⟨a, e, h⟩ := r; exact ⟨a, e, g _ _ h⟩
  | _ => exact r
def Ek (H : Hp) (σ : L2.St) (ρ : List (Option KD)) : Prop := ρ.length = σ.length ∧ ∀ (i : Nat) d, ρ[i]? = some (some d) → ∃ v, σ[i]? = some (some v) ∧ Rk H v d
theorem Ek.grow {H H' : Hp} {σ : L2.St} {ρ : List (Option KD)} (g : Gr H H') (r : Ek H σ ρ) : Ek H' σ ρ := ⟨r.1, fun i d h => let ⟨v, e, q⟩ := r.2 i d h; ⟨v, e, q.grow g⟩⟩
theorem Ek.set {H : Hp} {σ : L2.St} {ρ : List (Option KD)} {i : Nat} {d : KD} {v : V} (r : Ek H σ ρ) (q : Rk H v d) : Ek H (σ.set i (some v)) (ρ.set i (some d)) := ⟨by rw [List.length_set, List.length_set]; exact r.1, fun n e h => by
  by_cases hn : i = n
  · subst hn
    have hi : i < ρ.length := by
      have := (List.getElem?_eq_some_iff.mp h).1
      rw [List.length_set] at this
      exact this
    rw [List.getElem?_set_self hi] at h
    cases h
    exact ⟨v, by rw [List.getElem?_set_self (by have := r.1; omega)], q⟩
  · rw [List.getElem?_set_ne hn] at h
    obtain ⟨v', e', q'⟩ := r.2 n e h
    exact ⟨v', by rw [List.getElem?_set_ne hn]; exact e', q'⟩⟩
inductive Rks (H : Hp) : List V → List KD → Prop
  | nil : Rks H [] []
  | cons {v : V} {vs : List V} {d : KD} {ds : List KD} : Rk H v d → Rks H vs ds → Rks H (v :: vs) (d :: ds)
theorem Rks.grow {H H' : Hp} (g : Gr H H') : ∀ {vs : List V} {ds : List KD}, Rks H vs ds → Rks H' vs ds
  | _, _, .nil => .nil
  | _, _, .cons r t => .cons (r.grow g) (t.grow g)
theorem Rks.len {H : Hp} : ∀ {vs : List V} {ds : List KD}, Rks H vs ds → vs.length = ds.length
  | _, _, .nil => rfl
  | _, _, .cons r t => by rw [List.length_cons, List.length_cons, t.len]
def tk (ρ : List (Option KD)) (d : KD) : TE := fun σ H Q => Ek H σ ρ ∧ ∀ v H', Gr H H' → Rk H' v d → Q v H'
def tks (ρ : List (Option KD)) (ds : List KD) : TA := fun σ H Q => Ek H σ ρ ∧ ∀ vs H', Gr H H' → Rks H' vs ds → Q vs H'
/-- the end: a pair of texts, new -/
def tz (ρ : List (Option KD)) (x y : Str) : TS := fun D σ H => Ek H σ ρ ∧ ∀ H', Gr H H' → NewT H' D.rt [.str x, .str y]
section
variable {X : Cx} {ρ : List (Option KD)} {pos : Pos}
theorem k_var {i : Nat} {x : Str} {d : KD} (hd : ρ[i]? = some (some d)) (h : PE X (.Name x pos) (tVar i)) : PE X (.Name x pos) (tk ρ d) :=
  PE.imp h fun σ H Q ⟨he, q⟩ => let ⟨v, e, r⟩ := he.2 i d hd; ⟨v, e, q v H Gr.refl r⟩
theorem k_str {j : Nat} {x : Str} : PE X (.Constant (.str x) j pos) (tk ρ (.s x)) := PE.imp pe_str fun σ H Q ⟨he, q⟩ => q _ H Gr.refl rfl
theorem k_int {j : Nat} {n : Int} : PE X (.Constant (.int n) j pos) (tk ρ (.i n)) := PE.imp pe_int fun σ H Q ⟨he, q⟩ => q _ H Gr.refl rfl
theorem k_bool {j : Nat} {n : Bool} : PE X (.Constant (.bool n) j pos) (tk ρ (.b n)) := PE.imp pe_bl fun σ H Q ⟨he, q⟩ => q _ H Gr.refl rfl
theorem k_nil : PA X [] (tks ρ []) := PA.imp pa_nil fun σ H Q ⟨he, q⟩ => q [] H Gr.refl .nil
theorem k_cons {e : Expr} {es : List Expr} {d : KD} {ds : List KD} (ha : PE X e (tk ρ d)) (hb : PA X es (tks ρ ds)) (hp : plainE e = true := by rfl) : PA X (e :: es) (tks ρ (d :: ds)) :=
  PA.imp (pa_cons ha hb (star_plain hp _ _)) fun σ H Q ⟨he, q⟩ => ⟨he, fun v H1 g1 r1 => ⟨he.grow g1, fun vs H2 g2 r2 => q _ H2 (g1.trans g2) (.cons (r1.grow g2) r2)⟩⟩
theorem rks_bl {H : Hp} : ∀ {bs : List Bool} {vs : List V}, Rks H vs (bs.map .b) → vs = bs.map V.bl
  | [], _, .nil => rfl
  | b :: bs, _, .cons r t => by
    have r : _ = V.bl b := r
    rw [r, rks_bl t]; rfl
theorem rks_sl {H : Hp} : ∀ {bs : List Str} {vs : List V}, Rks H vs (bs.map .s) → vs = bs.map V.str
  | [], _, .nil => rfl
  | b :: bs, _, .cons r t => by
    have r : _ = V.str b := r
    rw [r, rks_sl t]; rfl
theorem k_lb {es : List Expr} {bs : List Bool} (hl : bs.length ≤ 1000) (h : PA X es (tks ρ (bs.map .b))) : PE X (.List es pos) (tk ρ (.bl bs)) :=
  PE.imp (pe_lst h) fun σ H Q ⟨he, q⟩ => ⟨he, fun vs H1 g1 r1 => ⟨by rw [r1.len, List.length_map, sizeLine_eq]; omega, fun p hp => q _ _ (g1.trans (Gr.laid hp)) ⟨p, rfl, by rw [upd_same, rks_bl r1]⟩⟩⟩
theorem k_ls {es : List Expr} {bs : List Str} (hl : bs.length ≤ 1000) (h : PA X es (tks ρ (bs.map .s))) : PE X (.List es pos) (tk ρ (.sl bs)) :=
  PE.imp (pe_lst h) fun σ H Q ⟨he, q⟩ => ⟨he, fun vs H1 g1 r1 => ⟨by rw [r1.len, List.length_map, sizeLine_eq]; omega, fun p hp => q _ _ (g1.trans (Gr.laid hp)) ⟨p, rfl, by rw [upd_same, rks_sl r1]⟩⟩⟩
theorem k_cb {a b : Expr} {xs ys : List Bool} (hl : xs.length + ys.length ≤ 1000) (ha : PE X a (tk ρ (.bl xs))) (hb : PE X b (tk ρ (.bl ys))) : PE X (.BinOp a .Add b pos) (tk ρ (.bl (xs ++ ys))) :=
  PE.imp (pe_op op_cat ha hb) fun σ H Q ⟨he, q⟩ => ⟨he, fun v H1 g1 r1 => ⟨he.grow g1, fun w H2 g2 r2 => by
    obtain ⟨l, rfl, h1⟩ := r1.grow g2
    obtain ⟨m, rfl, h2⟩ := r2
    exact ⟨l, m, _, _, rfl, rfl, h1, h2, by rw [List.length_map, List.length_map, sizeLine_eq]; omega, fun p hp => q _ _ ((g1.trans g2).trans (Gr.laid hp)) ⟨p, rfl, by rw [upd_same, List.map_append]⟩⟩⟩⟩
theorem k_cs {a b : Expr} {xs ys : List Str} (hl : xs.length + ys.length ≤ 1000) (ha : PE X a (tk ρ (.sl xs))) (hb : PE X b (tk ρ (.sl ys))) : PE X (.BinOp a .Add b pos) (tk ρ (.sl (xs ++ ys))) :=
  PE.imp (pe_op op_cat ha hb) fun σ H Q ⟨he, q⟩ => ⟨he, fun v H1 g1 r1 => ⟨he.grow g1, fun w H2 g2 r2 => by
    obtain ⟨l, rfl, h1⟩ := r1.grow g2
    obtain ⟨m, rfl, h2⟩ := r2
    exact ⟨l, m, _, _, rfl, rfl, h1, h2, by rw [List.length_map, List.length_map, sizeLine_eq]; omega, fun p hp => q _ _ ((g1.trans g2).trans (Gr.laid hp)) ⟨p, rfl, by rw [upd_same, List.map_append]⟩⟩⟩⟩
/-- isinstance(e, C), e the exception -/
theorem isE {a D : Addr} {oe : Obj} (hp : (a, oe) ∈ X.pn) (C : ExcC X.K D) (hz : L2N.Zn (.ref D) none oe) (hf : ∃ vs, oe.data = .fields vs) : CallR X (.builtin "isinstance") (rIsE X.K D a) := by
  intro pins s σ H xs us Q I r h
  obtain ⟨c, cv, b, rfl, hcv, e, q⟩ := h
  obtain ⟨u1, u2, rfl, r1, r2⟩ : ∃ u1 u2, us = [u1, u2] ∧ RelV (.ref a) u1 ∧ RelV c u2 := by
    cases r with
    | cons rx rr =>
      cases rr with
      | cons rt rr => cases rr; exact ⟨_, _, rfl, rx, rt⟩
  cases r1
  have ec := hcv _ r2
  subst ec
  have hget := (I.pin (a, oe) (List.mem_append_left _ hp)).1
  obtain ⟨vs, hv⟩ := hf
  have J : PySem.W.InstAt s.heap a oe D none := by
    obtain ⟨oc, od, oda, osl⟩ := oe
    obtain ⟨h1, h2, _⟩ := hz
    dsimp only at h1 h2 hv
    subst h1 h2 hv
    exact ⟨hget, rfl, rfl, trivial⟩
  have kit := PySem.W.handS_kitx_exc (K := X.K) (D := D) (x := a) (ox := oe) C.hg C.hk C.hs C.hd C.ha C.hn C.ht C.hm
  exact PySem.W.kia_one kit I.kIn J e (fun z => nomatch z) fun tk => ⟨.bl b, H, I.kept (t' := tk) fun _ _ z => z, rfl, q⟩
end
end VW
end
section
set_option maxHeartbeats 2000000
/-! What the telling of an exception is made of. -/
namespace VW
open PySem PySem.Spec PyProof.Rows L2 HotX L2H
section
variable {X : Cx} {ρ : List (Option KD)} {pos : Pos}
theorem k_is {a D : Addr} {cv : Value} {c : V} {b : Bool} {e n : Str} {i : Nat} {p1 p2 p3 : Pos} (hc : CallR X (.builtin "isinstance") (rIsE X.K D a)) (hk : PySem.W.kitOne X.K (.ref D) cv = some b) (hu : ∀ u, RelV c u → u = cv) (hg : Gl X "isinstance") (hm : X.mg "isinstance" = none)
    (hv : PE X (.Name e p2) (tVar i)) (hn : PE X (.Name n p3) (tC c)) (hr : ρ[i]? = some (some (.er a))) : PE X (.Call (.Name "isinstance" p1) [.Name e p2, .Name n p3] [] pos) (tk ρ (.b b)) :=
  PE.imp (pe_callB hc hg hm (by decide +kernel) (pa_cons hv (pa_cons hn pa_nil rfl) rfl)) fun σ H Q ⟨he, q⟩ => by
    obtain ⟨v, e1, r1⟩ := he.2 i _ hr
    have r1 : v = V.ref a := r1
    subst r1
    exact ⟨_, e1, c, cv, b, rfl, hu, hk, q _ H Gr.refl rfl⟩
theorem k_bit {N : Nat} {y : Str} {j : Nat} {p1 p2 : Pos} (hg : Gl X "int") (hm : X.mg "int" = none) (hv : PE X (.Name y p2) (tVar j)) : PE X (.Call (.Name "int" p1) [.Name y p2] [] pos) (tBit j) :=
  PE.imp (pe_callTy call_int1 hg hm (by decide +kernel) (pa_cons hv pa_nil rfl)) fun σ H Q ⟨b, e, q⟩ => ⟨_, e, .inr ⟨b, rfl, q⟩⟩
theorem k_sum {e0 : Expr} {bs : List Bool} {p1 : Pos} (hl : bs.length ≤ 1000) (hc : HotC X) (hg : Gl X "sum") (hm : X.mg "sum" = none) (h : PE X e0 (tBits (tk ρ (.bl bs)))) (hp : plainE e0 = true) : PE X (.Call (.Name "sum" p1) [e0] [] pos) (tk ρ (.i (bs.map bit).sum)) := by
  refine PE.imp (pe_callB (sumH hc) hg hm (by decide +kernel) (pa_cons h pa_nil (star_plain hp _ _)) (by decide) (by decide) (star_plain hp _ _) rfl) fun σ H Q ⟨he, q⟩ => ⟨he, fun v H1 g1 r1 => ?_⟩
  obtain ⟨a, rfl, h1⟩ := r1
  refine ⟨a, bs, rfl, h1, fun D hD => ⟨D, bs.map bit, rfl, by rw [upd_same, List.map_map]; rfl, fun n hn => ?_, by rw [List.length_map]; exact hl, q _ _ (g1.trans (Gr.laid hD)) rfl⟩⟩
  obtain ⟨b, _, rfl⟩ := List.mem_map.mp hn
  cases b <;> decide
theorem k_ne {a b : Expr} {m n : Int} (hp : plainE b = true) (ha : PE X a (tk ρ (.i m))) (hb : PE X b (tk ρ (.i n))) : PT X (.Compare a [.NotEq] [b] pos) (fun σ H Q => Ek H σ ρ ∧ ∀ H', Gr H H' → Q (!decide (m = n)) H') :=
  PT.imp (pt_cmpR op_ne ha hb (in_plain hp _)) fun σ H Q ⟨he, q⟩ => ⟨he, fun v H1 g1 r1 => ⟨he.grow g1, fun w H2 g2 r2 => by
    have r1 : v = V.int m := r1
    have r2 : w = V.int n := r2
    subst r1 r2
    refine ⟨rfl, _, rfl, ?_⟩
    have e : (decide (V.int m = V.int n)) = decide (m = n) := by
      by_cases h : m = n
      · subst h; simp
      · simp [h]
    rw [e]
    exact q H2 (g1.trans g2)⟩⟩
theorem k_nt {a : Expr} {b : Bool} (ha : PE X a (tk ρ (.b b))) (he : ∀ whole, isTrue a X.env whole = (do let v ← whole; standAt a.pos; holding [v] (truthy v))) : PT X (.UnaryOp .Not a pos) (fun σ H Q => Ek H σ ρ ∧ ∀ H', Gr H H' → Q (!b) H') :=
  PT.imp (pt_not (pt_val ha he)) fun σ H Q ⟨he, q⟩ => ⟨he, fun v H1 g1 r1 => by
    have r1 : v = V.bl b := r1
    subst r1
    exact ⟨b, rfl, q H1 g1⟩⟩
theorem k_or {a b : Expr} {p q : Bool} (ha : PT X a (fun σ H Q => Ek H σ ρ ∧ ∀ H', Gr H H' → Q p H')) (hb : PT X b (fun σ H Q => Ek H σ ρ ∧ ∀ H', Gr H H' → Q q H')) : PT X (.BoolOp .Or [a, b] pos) (fun σ H Q => Ek H σ ρ ∧ ∀ H', Gr H H' → Q (p || q) H') :=
  PT.imp (pw_or ha (pw_or1 hb)).pt fun σ H Q ⟨he, z⟩ => ⟨he, fun H1 g1 => by
    cases p with
    | true => exact iteT (z H1 g1)
    | false => exact iteF ⟨he.grow g1, fun H2 g2 => z H2 (g1.trans g2)⟩⟩
/-- flags.index(True) -/
theorem k_index {o e : Expr} {bs : List Bool} {j : Nat} {apos cpos : Pos} (hu : X.A.units + 65 < cLine) (hj : bs[j]? = some true) (hm : ∀ m, m < j → bs[m]? = some false) (sh : SeqAt.shaped (.list (bs.map PyData.bool)) = true) (hb : baseB o = true) (hln : (apos.endLine == cpos.line) = true) (hp : plainE e = true)
    (ho : PE X o (tk ρ (.bl bs))) (he : PE X e (tk ρ (.b true))) : PE X (.Call (.Attribute o "index" apos) [e] [] cpos) (tk ρ (.i (j : Nat))) := by
  have hs := star_plain hp [] X.env
  refine PE.imp (pe_bm PySem.F.plainAttrs_list PySem.F.slot_list_index PySem.F.type_list_index (mt_indexD hu) ho (pa_cons he pa_nil hs) (base_ok hb _ _ _) (by rw [hs]; rfl) hln hs rfl) fun σ H Q ⟨he, q⟩ => ⟨he, fun v H1 g1 r1 => ?_⟩
  obtain ⟨a, rfl, h1⟩ := r1
  refine ⟨.inl ⟨rfl, _, .inl (.inl h1)⟩, he.grow g1, fun w H2 g2 r2 => ?_⟩
  have r2 : w = V.bl true := r2
  subst r2
  have dps : ∀ xs : List Bool, DpAll X.K H2 (xs.map V.bl) (xs.map PyData.bool) := fun xs => by
    induction xs with
    | nil => exact .nil
    | cons x xs ih => exact .cons (.bl x) ih
  refine ⟨a, .bl true, .bool true, bs.map PyData.bool, j, .bool true, rfl, rfl, .lst (.inl (.inl (g2 _ _ h1))) (dps bs), .bl true, sh, rfl, by rw [List.getElem?_map, hj]; rfl, by decide, fun m z hm' hz => ?_, q _ H2 (g1.trans g2) rfl⟩
  rw [List.getElem?_map, hm m hm'] at hz
  cases hz
  decide
theorem k_at {a i : Expr} {xs : List Str} {j : Nat} {x : Str} (hx : xs[j]? = some x) (hp : plainE i = true) (ha : PE X a (tk ρ (.sl xs))) (hi : PE X i (tk ρ (.i (j : Nat)))) : PE X (.Subscript a i pos) (tk ρ (.s x)) :=
  PE.imp (pe_ix ix_list ha hi (ix_plain hp)) fun σ H Q ⟨he, q⟩ => ⟨he, fun v H1 g1 r1 => ⟨he.grow g1, fun w H2 g2 r2 => by
    obtain ⟨p, rfl, h1⟩ := r1.grow g2
    have r2 : w = V.int (j : Nat) := r2
    subst r2
    refine ⟨p, _, _, _, rfl, rfl, .inl (.inl h1), ?_, q _ H2 (g1.trans g2) rfl⟩
    have hj : j < xs.length := (List.getElem?_eq_some_iff.mp hx).1
    have ej : xs[j] = x := (List.getElem?_eq_some_iff.mp hx).2
    unfold L2.atI L2.ixN
    simp [hj, ej]⟩⟩
theorem k_set {i : Nat} {x : Str} {e : Expr} {rest : List Stmt} {d : KD} {u v : Str} {py : Pos} (hN : X.N.Nodup) (hi : X.N[i]? = some x) (hx : X.env.scope.names.lookup x = some .local) (hc : compB e = false) (he : PE X e (tk ρ d)) (hr : PSs X rest (tz (ρ.set i (some d)) u v)) :
    PSs X (.Assign [.Name x py] e pos :: rest) (tz ρ u v) :=
  PSs.imp (pss_cons (ps_set hN hi (.inl hx) he (sw_plain hc _ _ _) (.inr hx)) hr) fun D σ H ⟨he, q⟩ => ⟨he, fun w H1 g1 r1 => ⟨(he.grow g1).set r1, fun H2 g2 => q H2 (g1.trans g2)⟩⟩
theorem k_skip {c : Expr} {a rest : List Stmt} {t : TS} {u v : Str} (hc : PT X c (fun σ H Q => Ek H σ ρ ∧ ∀ H', Gr H H' → Q false H')) (ha : PSs X a t) (hr : PSs X rest (tz ρ u v)) : PSs X (.If c a [] pos :: rest) (tz ρ u v) :=
  PSs.imp (pss_cons (ps_if hc ha pss_nil) hr) fun D σ H ⟨he, q⟩ => ⟨he, fun H1 g1 => iteF ⟨he.grow g1, fun H2 g2 => q H2 (g1.trans g2)⟩⟩
theorem k_ret {a b : Expr} {u v : Str} {j : Nat} {p : Pos} (ha : PE X a (tk ρ (.s u))) (hb : PE X b (tk ρ (.s v))) (hp : plainE a = true) (hq : plainE b = true) : PSs X [.Return (some (.Tuple [a, b] j p)) pos] (tz ρ u v) :=
  PSs.imp (pss_one (ps_ret (pe_tupF (k_cons ha (k_cons hb k_nil hq) hp)))) fun D σ H ⟨he, q⟩ => ⟨he, fun vs H1 g1 r1 => by
    cases r1 with
    | cons r1 t =>
      cases t with
      | cons r2 t =>
        cases t
        have r1 : _ = V.str u := r1
        have r2 : _ = V.str v := r2
        subst r1 r2
        exact ⟨by show 2 ≤ sizeLine; rw [sizeLine_eq]; decide, q H1 g1⟩⟩
end
end VW
end
section
set_option maxHeartbeats 2000000
/-! A def is handed the exception that is handled; a lambda is handed to the def that tells. -/
namespace VW
open PySem PySem.Spec PyProof.Rows L2 HotX L2H
section
variable {X : Cx}
/-- a def of the program as K holds it -/
structure DefK (K : PySem.W.Frag) (x : Str) (st : Stmt) (N ps : List Str) (f : Addr) (cdv : Value) : Prop where
  ex : ∃ (oc : Value) (od : Option Addr) (dV kV doc pm : Value) (an : Option Addr) (ct : Value) (osl : Array (Option Value)),
    K.lookup f = some ⟨oc, od, .func (PySem.W.fnOf x x (defArgs st) (defBody st) (defScope st) dV kV doc pm an cdv ct), osl⟩ ∧ Binds K (PySem.W.fnOf x x (defArgs st) (defBody st) (defScope st) dV kV doc pm an cdv ct) ps []
  kp : PySem.W.keepIn K (.ref f) = true
  cd : PySem.W.codeIn K cdv x = true
  S : FnScope N ps (defScope st)
/-- it is run in a place where the exception at p is handled, p's address its argument -/
theorem run_term {x : Str} {st : Stmt} {N : List Str} {y : Str} {f : Addr} {cdv : Value} {p : Addr × Obj} {pins : List (Addr × Obj)} {σ : L2.St} {H : Hp} {s : Shared} {Q : VK} {u v : Str} {k : Nat} (F : DefK X.K x st N [y] f cdv) (hp : p ∈ X.pn) (hot : Hot1 X.A p) (hr : RoomH (k + 1) X.A) (hN : 1 ≤ N.length)
    (hbody : ∀ s H, RoomH k (X.A.deeper (envOfC x (defScope st) s.heap.objs.size f cdv)) → PSs (cxH CX0 X.prog X.w X.K X.mg X.base N x (defScope st) f cdv X.A X.stack s H E0 p) (defBody st) (tz (some (.er p.1) :: List.replicate (N.length - 1) none) u v))
    (I : Inv X pins σ H s) (q : ∀ H', Gr H H' → NewT H' Q [.str u, .str v]) : wpAny (model X.prog X.w) X.A (call (.ref f) [.ref p.1]) (EP X pins σ Q) X.xe s := by
  obtain ⟨oc, od, dV, kV, doc, pm, an, ct, osl, lk, hb⟩ := F.ex
  have P1 := I.pin p (List.mem_append_left _ hp)
  have hpin : PinOk X.stack H s p := ⟨P1.1, P1.2.1, fun hm => (List.mem_cons.mp (I.stkSub p.1 hm)).elim P1.2.2.1 P1.2.2.2.1, P1.2.2.2.2⟩
  have hbs := hb s [.ref p.1] I.kIn rfl
  have e0 := I.env0
  have KX : X.K.In s.heap := I.kIn
  have lim : s.heap.NoLimit := I.nolimit
  have hkind : ∀ z ∈ [y].zip [Value.ref p.1], (defScope st).names.lookup z.1 = some .local ∨ ((defScope st).names.lookup z.1 = some .cell ∧ ((cellsFrom (s.heap.objs.size + 1) (defScope st).names []).lookup z.1).isSome = true) := fun z hz =>
    (F.S.par z.1 (List.of_mem_zip (a := z.1) (b := z.2) hz).1).imp id fun q => ⟨q, PySem.W.cellsFrom_some _ _ _ (.inl q)⟩
  have rc : codeAny (model X.prog X.w) X.A (.call (.ref f) ⟨[.ref p.1], []⟩) (CR CX0 X.stack X.prog X.w H s Q E0) s := by
    refine codeAny_call_function hr.depth (KX _ _ lk) rfl F.S.co F.S.gen rfl (PySem.W.codeRec_of KX F.cd) (hbs _ _ _ _ ?_)
    refine wpAny_newFunctionEnv_cells F.S.kind hkind fun env he s1 x1 => ?_
    subst he
    refine ⟨lim.keeps x1.toInCall.keep, codeAny_func ?_⟩
    have J : Inv (cxH CX0 X.prog X.w X.K X.mg X.base N x (defScope st) f cdv X.A X.stack s H E0 p) [] (L2.start N [.ref p.1]) H s1 := inv_startH F.S hpin e0 (vs := [.ref p.1]) (us := [.ref p.1]) rfl (.cons rfl .nil) x1
    have ek : Ek H (L2.start N [.ref p.1]) (some (.er p.1) :: List.replicate (N.length - 1) none) := by
      refine ⟨by unfold L2.start; simp, fun i d h => ?_⟩
      cases i with
      | zero =>
        cases h
        exact ⟨.ref p.1, rfl, rfl⟩
      | succ i =>
        rw [List.getElem?_cons_succ, List.getElem?_replicate] at h
        split at h <;> cases h
    refine wpAny_mono ((hbody s H (hr.deeper _)).run [] s1 _ H { nx := fun _ H' => Q .non H', rt := Q } J ⟨ek, q⟩) (fun fl s' hs => ?_) fun e s' hs => ?_
    · cases fl with
      | ret w =>
        obtain ⟨v', σ', H', J', rv, q'⟩ := hs
        exact ⟨v', H', J'.os, J'.bare, J'.base, J'.hok, rv, q'⟩
      | next =>
        obtain ⟨σ', H', J', q'⟩ := hs
        exact ⟨V.non, H', J'.os, J'.bare, J'.base, J'.hok, rfl, q'⟩
      | brk => obtain ⟨_, _, _, z⟩ := hs; exact False.elim z
      | cont => obtain ⟨_, _, _, z⟩ := hs; exact False.elim z
    · exact hs
  refine wpAny_call (codeAny_mono rc fun r s' hq => ?_)
  cases r with
  | error e => exact (show False from hq).elim
  | ok fl =>
    cases fl with
    | ret w => exact I.after hq
    | next => exact False.elim hq
    | brk => exact False.elim hq
    | cont => exact False.elim hq
/-- x(e), within the suite -/
theorem pe_term {x e : Str} {st : Stmt} {N : List Str} {y : Str} {f : Addr} {cdv : Value} {p : Addr × Obj} {i k : Nat} {u v : Str} {p1 p2 pos : Pos} (F : DefK X.K x st N [y] f cdv) (hm : X.mg x = some (.ref f)) (hg : Gl X x) (hp : p ∈ X.pn) (hot : Hot1 X.A p) (hr : RoomH (k + 1) X.A) (hN : 1 ≤ N.length)
    (hbody : ∀ s H, RoomH k (X.A.deeper (envOfC x (defScope st) s.heap.objs.size f cdv)) → PSs (cxH CX0 X.prog X.w X.K X.mg X.base N x (defScope st) f cdv X.A X.stack s H E0 p) (defBody st) (tz (some (.er p.1) :: List.replicate (N.length - 1) none) u v))
    (hv : PE X (.Name e p2) (tVar i)) (hd : (x == ("__debug__" : Str)) = false) : PE X (.Call (.Name x p1) [.Name e p2] [] pos) (fun σ H Q => σ[i]? = some (some (.ref p.1)) ∧ ∀ H', Gr H H' → NewT H' Q [.str u, .str v]) := by
  refine ⟨fun pins s σ H Q I ⟨h1, h2⟩ => ?_⟩
  have ha : PA X [.Name e p2] (tCons (tVar i) tNil) := pa_cons hv pa_nil rfl
  refine wpAny_Call_Name_kw (ld_glob I hg hm ?_ hd)
  refine PySem.W.callWith_K (h₀ := X.base) I.ok.mod.kin F.kp (thn (ha.run pos pins s σ H (fun vs H1 => vs = [V.ref p.1] ∧ H1 = H) I ⟨.ref p.1, h1, rfl, rfl⟩) fun us s1 hq => ?_) rfl rfl
  obtain ⟨vs, H1, I1, r1, e1, e2⟩ := hq
  subst e1 e2
  obtain ⟨w, rfl, rw1⟩ := vals1 r1
  cases rw1
  exact ⟨I1.kIn, run_term F hp hot hr hN hbody I1 h2⟩
end
end VW
end
section
set_option maxHeartbeats 2000000
/-! A lambda's body; what leaves it is known with its context. -/
namespace VW
open PySem PySem.Spec PyProof.Rows L2 HotX L2H LamX
section
variable {X : Cx}
/-- the context of the lambda's body -/
def lamN (X : Cx) (A : Around) (outer : List PySem.Env) (s : Shared) (H : Hp) (E : XK) (scope : Scope) (f c' : Addr) : Cx :=
  (lamCx X A outer s H E scope f c').wish fun e s' => wpAny (model X.prog X.w) (A.deeper (lamEnv X scope s.heap.objs.size f c')) (leaving (lamEnv X scope s.heap.objs.size f c') e) (fun _ s'' => L2N.CX X.prog X.w outer H s E e s'') (fun e' s'' => L2N.CX X.prog X.w outer H s E e' s'') s'
theorem lamN_takes {A : Around} {outer : List PySem.Env} {s : Shared} {H : Hp} {E : XK} {scope : Scope} {f c' : Addr} : L2N.Takes (lamN X A outer s H E scope f c') (fun cls d _ H => E cls d H) := L2N.takes_of rfl rfl rfl rfl
theorem actN {Ng : List Str} {qg : Str} {sg : Scope} {g f c' : Addr} {cdg pm ctv : Value} {params : Arguments} {body : Expr} {scope : Scope} {k i : Nat} {a : Str} {pn pins : List (Addr × Obj)} {σ : L2.St} {H : Hp} {s : Shared} {xe : Value → Shared → Prop} {W : WX} {E : XK} {tb : TE} {p1 p2 : Pos}
    (I : Inv X pins σ H s) (L : LamS X.env.scope scope) (hf : s.heap.get? f = some (PySem.W.kla_obj "<lambda>" (X.env.qual ++ "<lambda>") params body scope (cloFrom X.env.cells scope.names []) pm c' ctv)) (hfn : H f = none) (hfr : f ∉ frs X.stack)
    (hbind : bindArgs (PySem.W.kla_fn "<lambda>" (X.env.qual ++ "<lambda>") params body scope (cloFrom X.env.cells scope.names []) pm (.ref c') ctv) ⟨[], []⟩ = pure [])
    (tk : L2N.Takes ((cxOf CX0 X.prog X.w X.K X.mg X.base Ng qg sg g cdg X.A X.stack s H E0).tr pn xe) W) (hr : Room (k + 1) (X.A.deeper (envOfC qg sg s.heap.objs.size g cdg)))
    (hbody : ∀ (A : Around) (outer : List PySem.Env) (s : Shared) (H : Hp), Room k (A.deeper (lamEnv X scope s.heap.objs.size f c')) → PE (lamN X A outer s H E scope f c') body tb)
    (hv : PE ((cxOf CX0 X.prog X.w X.K X.mg X.base Ng qg sg g cdg X.A X.stack s H E0).tr pn xe) (.Name a p1) (tVar i)) :
    PE ((cxOf CX0 X.prog X.w X.K X.mg X.base Ng qg sg g cdg X.A X.stack s H E0).tr pn xe) (.Call (.Name a p1) [] [] p2)
      (fun σZ HZ Q => σZ[i]? = some (some (.ref f)) ∧ HZ c' = some (CodeO c' (X.env.qual ++ "<lambda>")) ∧ (∀ cls d H', E cls d H' → W cls d σZ H') ∧ tb σ HZ Q) := by
  refine ⟨fun pinsZ sZ σZ HZ Q IZ ⟨hs, hc, hW, ht⟩ => ?_⟩
  refine wpAny_Call_Name_kw (thn (hv.run pinsZ sZ σZ HZ (fun v H1 => v = .ref f ∧ H1 = HZ) IZ ⟨.ref f, hs, rfl, rfl⟩) fun u s1 hq => ?_)
  obtain ⟨v, H1, I1, r1, ev, eH⟩ := hq
  subst ev eH
  obtain rfl : u = Value.ref f := r1
  have un : Un (frs X.stack) [] H H1 s.heap s1.heap := I1.base
  have of1 := un.keep f _ hf hfn hfr (fun z => nomatch (show f ∈ ([] : List Addr) from z))
  refine PySem.W.callWith_F0 ⟨_, _, _, _, of1⟩ ?_
  obtain ⟨⟨oc, vs, t, hoc, hdc, hvc⟩, _, _⟩ := I1.hok c' _ hc
  have rc : codeAny (model X.prog X.w) (X.A.deeper (envOfC qg sg s.heap.objs.size g cdg)) (.call (.ref f) ⟨[], []⟩) (CR (L2N.CX X.prog X.w) (envOfC qg sg s.heap.objs.size g cdg :: X.stack) X.prog X.w H1 s1 Q E) s1 := by
    refine PySem.W.kla_callFunE hr.depth of1 rfl L.co L.gen rfl ⟨c', oc, vs, t, rfl, hoc, hdc, hvc⟩ ?_
    rw [hbind]
    refine wpAny_pure (wpAny_newFunctionEnv (fun y hy => (L.own y hy).2) (fun y hy => absurd hy (by simp)) (fun h1 hns hsb => ⟨I1.nolimit.fresh _ hsb, ?_⟩) L.kind)
    show codeAny _ _ (.expr body (lamEnv X scope s1.heap.objs.size f c')) _ _
    have kp : ∀ b o, s1.heap.get? b = some o → h1.get? b = some o := fun b o z => hsb.extBut b o (Nat.ne_of_lt (Heap.lt_size z)) (Heap.get?_push_of_some _ z)
    have J0 := lam_start2 (E := E) (f := f) (c' := c') (tk := s1.toks + ([] : List (Str × Value)).length) I L I1.env0 hr.hd un hns kp
    have J : Inv (lamN X (X.A.deeper (envOfC qg sg s.heap.objs.size g cdg)) (envOfC qg sg s.heap.objs.size g cdg :: X.stack) s1 H1 E scope f c') [] σ H1 { s1 with heap := h1, toks := s1.toks + ([] : List (Str × Value)).length } := J0.wish _
    refine PySem.W.kla_codeExpr (wpAny_mono ((hbody _ _ s1 H1 (hr.deeper _)).run [] _ _ H1 Q J ht) (fun v s' hq => ?_) fun e s' hq => hq)
    obtain ⟨w', H', J', rv, q⟩ := hq
    exact ⟨w', H', J'.os, J'.bare, J'.base, J'.hok, rv, q⟩
  refine wpAny_call (codeAny_mono rc fun r s' hq => ?_)
  cases r with
  | error e => exact tk e s' (L2N.XE.of_call I1 hW hq)
  | ok fl =>
    cases fl with
    | ret u => exact I1.after hq
    | next => exact False.elim hq
    | brk => exact False.elim hq
    | cont => exact False.elim hq
end
end VW
end
section
set_option maxHeartbeats 2000000
/-! x(lambda: ..): what it lets out is told. -/
namespace VW
open PySem PySem.Spec PyProof.Rows L2 HotX L2H LamX
/-- the def that makes a pair of texts of the exception that it is handed -/
def TermOk (K : PySem.W.Frag) (mg : Str → Option Value) (ca : Str → Addr) (names : List Str) (x : Str) (st : Stmt) (N : List Str) (f : Addr) (cdv : Value) : Prop :=
  ∀ c ∈ names, ∀ (prog : Program) (w : World) (base : Heap) (A : Around) (outer : List PySem.Env) (s : Shared) (H : Hp) (p : Addr × Obj), Hot1 A p → L2N.Zn (.ref (ca c)) none p.2 → (∃ vs, p.2.data = .fields vs) → (A.deeper (envOfC x (defScope st) s.heap.objs.size f cdv)).units + 65 < cLine →
    PSs (cxH CX0 prog w K mg base N x (defScope st) f cdv A outer s H E0 p) (defBody st) (tz (some (.er p.1) :: List.replicate (N.length - 1) none) "error" c)
/-- the def that tells -/
structure ToldD (K : PySem.W.Frag) (mg : Str → Option Value) (ca : Str → Addr) (names : List Str) (x m ve : Str) (stT stM : Stmt) (NM : List Str) (g fm CV : Addr) (cdg cdm : Value) : Prop where
  T : DefK K x stT ["deed", "e"] ["deed"] g cdg
  hT : mg x = some (.ref g)
  M : DefK K m stM NM ["e"] fm cdm
  hM : mg m = some (.ref fm)
  NM1 : 1 ≤ NM.length
  V : mg ve = some (.ref CV)
  body : ∃ p1 p2 p3 p4 p5 p6 p7 p8 p9 p10, defBody stT = [.Try [.Return (some (.Call (.Name "deed" p1) [] [] p2)) p3] [.ExceptHandler (some (.Name ve p4)) (some "e") [.Return (some (.Call (.Name m p5) [.Name "e" p6] [] p7)) p8] p9] [] [] p10]
  gV : (defScope stT).names.lookup ve = some .globalImplicit
  gM : (defScope stT).names.lookup m = some .globalImplicit
  lE : (defScope stT).names.lookup ("e" : Str) = some .local
  lD : (defScope stT).names.lookup ("deed" : Str) = some .local
  oV : (ve == ("__debug__" : Str)) = false
  oM : (m == ("__debug__" : Str)) = false
  sub : ∀ c ∈ names, PySem.W.exmOne K (.ref (ca c)) (.ref CV) = some true
  term : TermOk K mg ca names m stM NM fm cdm
section
variable {X : Cx}
def Eh (ca : Str → Addr) (names : List Str) (Q : VK) : XK := fun cls d H' => ∃ c ∈ names, cls = .ref (ca c) ∧ d = none ∧ ∀ H'', Gr H' H'' → NewT H'' Q [.str "error", .str c]
theorem takes0N {X : Cx} : L2N.Takes X (fun _ _ _ _ => False) := fun _ _ ⟨_, _, _, _, _, _, _, _, _, _, _, _, _, _, _, _, z⟩ => z.elim
theorem pe_told {T : List (Addr × Str)} {ca : Str → Addr} {names : List Str} {x m ve : Str} {stT stM : Stmt} {NM : List Str} {g fm CV c P : Addr} {cdg cdm : Value} {k : Nat} {params : Arguments} {body : Expr} {scope : Scope} {t : XK → TE} {p lpos pos : Pos}
    (D : ToldD X.K X.mg ca names x m ve stT stM NM g fm CV cdg cdm) (hg : Gl X x) (hdb : (x == ("__debug__" : Str)) = false) (TB : TabB X.base X.mg c P) (hcode : X.env.code = .ref c) (hmT : (P, X.env.qual ++ "<lambda>") ∈ T) (hu : ∀ p ∈ T, p.1 = P → p.2 = X.env.qual ++ "<lambda>")
    (hr : Room (k + 2) X.A) (L : LamS X.env.scope scope) (hdef : defaultsOf params X.env = ([], []))
    (hbind : ∀ (q : Str) (cl : List (Str × Addr)) (pm cv ctv : Value), bindArgs (PySem.W.kla_fn "<lambda>" q params body scope cl pm cv ctv) ⟨[], []⟩ = pure [])
    (hbody : ∀ (A : Around) (outer : List PySem.Env) (s : Shared) (H : Hp) (E : XK) (f c' : Addr), Room k (A.deeper (lamEnv X scope s.heap.objs.size f c')) → PE (lamN X A outer s H E scope f c') body (t E)) :
    PE X (.Call (.Name x p) [.Lambda params body scope lpos] [] pos) (fun σ H Q => Tabs T H ∧ ∀ H1, ExtN H H1 → Tabs T H1 → t (Eh ca names Q) σ H1 Q) := by
  refine ⟨fun pins s σ H Q I ⟨hT, h⟩ => ?_⟩
  refine wpAny_Call_Name_kw (ld_glob I hg D.hT ?_ hdb)
  refine PySem.W.callWith_K (h₀ := X.base) I.ok.mod.kin D.T.kp ?_ (by rfl) (by rfl)
  show wpAny _ _ (spliced ((false, eval (.Lambda params body scope lpos) X.env) :: backTo pos (starEach [] X.env))) _ _ s
  refine Calls.spliced_cons (lam_make2 I TB hcode hmT hu hT hdef (L.has I.ok) fun f c' pm' ctv H1 s' I1 eN T1 hf hfn hfr hco => ?_)
  refine Calls.spliced_nil ⟨I1.kIn, ?_⟩
  obtain ⟨oc, od, dV, kV, doc, pm, an, ct, osl, lk, hb⟩ := D.T.ex
  obtain ⟨p1, p2, p3, p4, p5, p6, p7, p8, p9, p10, eb⟩ := D.body
  have hq := h H1 eN T1
  have rc : codeAny (model X.prog X.w) X.A (.call (.ref g) ⟨[.ref f], []⟩) (CR CX0 X.stack X.prog X.w H1 s' Q E0) s' := by
    refine run_ofS (N := ["deed", "e"]) (ps := ["deed"]) (us := [.ref f]) (vs := [.ref f]) lk D.T.cd D.T.S hr I1.env0 (hb s' [.ref f] I1.kIn rfl) (.cons rfl .nil) rfl fun hr' => ?_
    rw [eb]
    -- the context of the def that tells
    have hV : ∀ xe pn, PE ((cxOf CX0 X.prog X.w X.K X.mg X.base ["deed", "e"] x (defScope stT) g cdg X.A X.stack s' H1 E0).tr pn xe) (.Name "deed" p1) (tVar 0) := fun xe pn => pe_var rfl (.inl D.lD) (by decide) (by decide)
    refine ⟨_, PSs.nox (pss_one (L2N.ps_try_as (X := (cxOf CX0 X.prog X.w X.K X.mg X.base ["deed", "e"] x (defScope stT) g cdg X.A X.stack s' H1 E0).nox) (i := 1) (c := .ref CV) (Wout := fun _ _ _ _ => False)
        (tb := fun W De σ2 H => ∃ Ech : XK, σ2[0]? = some (some (.ref f)) ∧ H c' = some (CodeO c' (X.env.qual ++ "<lambda>")) ∧ (∀ cls d H', Ech cls d H' → W cls d σ2 H') ∧ t Ech σ H De.rt)
        (ts := fun a cls d De σ H => ∃ cn ∈ names, cls = .ref (ca cn) ∧ d = none ∧ σ[1]? = some (some (.ref a)) ∧ ∀ H', Gr H H' → NewT H' De.rt [.str "error", .str cn])
        rfl rfl (show (["deed", "e"] : List Str).Nodup by decide) rfl D.lE ⟨D.gV, D.oV, .inl D.V⟩ takes0N (fun W pn xe tk _ => ?_) (fun a oe cls d pn hz hfl => ?_))), ?_⟩
    · refine ⟨fun pins2 sx σx Hx De Ix ⟨Ech, h1, h2, h3, h4⟩ => ?_⟩
      have ac := actN (W := W) (E := Ech) (tb := t Ech) (i := 0) (p1 := p1) (p2 := p2) I1 L hf hfn hfr (hbind _ _ _ _ _) tk hr' (fun A outer s H hr2 => hbody A outer s H Ech f c' hr2) (hV xe pn)
      exact (pss_one (ps_ret (pos := p3) ac)).run pins2 sx σx Hx De Ix ⟨h1, h2, h3, h4⟩
    · refine ⟨fun pins2 sx σx Hx De Ix ⟨cn, hcn, e1, e2, h1, h2⟩ => ?_⟩
      subst e1 e2
      have hot1 : Hot1 (((cxOf CX0 X.prog X.w X.K X.mg X.base ["deed", "e"] x (defScope stT) g cdg X.A X.stack s' H1 E0).nox).suite a ((a, oe) :: pn)).A (a, oe) := by
        obtain ⟨vs, hd⟩ := hfl
        exact ⟨rfl, vs, hd, hz.2.2 vs hd⟩
      have hrm : RoomH (k + 1) (((cxOf CX0 X.prog X.w X.K X.mg X.base ["deed", "e"] x (defScope stT) g cdg X.A X.stack s' H1 E0).nox).suite a ((a, oe) :: pn)).A := ⟨hr'.dp, hr'.un⟩
      have tm := pe_term (X := ((cxOf CX0 X.prog X.w X.K X.mg X.base ["deed", "e"] x (defScope stT) g cdg X.A X.stack s' H1 E0).nox).suite a ((a, oe) :: pn)) (p := (a, oe)) (i := 1) (p1 := p5) (p2 := p6) (pos := p7) D.M D.hM D.gM List.mem_cons_self hot1 hrm D.NM1
        (fun s2 H2 hr2 => D.term cn hcn _ _ _ _ _ s2 H2 (a, oe) hot1 hz hfl (by have := hr2.un; omega)) (pe_var rfl (.inl D.lE) (by decide) (by decide)) D.oM
      exact (pss_one (ps_ret (pos := p8) tm)).run pins2 sx σx Hx De Ix ⟨h1, h2⟩
    · exact ⟨Eh ca names Q, rfl, hco, fun cls d H' ⟨cn, hcn, e1, e2, q⟩ => ⟨true, by rw [e1]; exact D.sub cn hcn, fun _ a na => ⟨cn, hcn, e1, e2, rfl, q⟩, fun z => by cases z⟩, hq⟩
  refine wpAny_call (codeAny_mono rc fun r s2 hq => ?_)
  cases r with
  | error e => exact (show False from hq).elim
  | ok fl =>
    cases fl with
    | ret u => exact I1.after hq
    | next => exact False.elim hq
    | brk => exact False.elim hq
    | cont => exact False.elim hq
end
end VW
end
section
set_option maxHeartbeats 2000000
/-! The interpreter's word for a told call. -/
namespace VW
open PySem PySem.Spec PyProof.Rows L2 HotX L2H LamX
section
variable {Φ : Fn} {α β : Type}
theorem bind_ok {r : VW.R α} {f : α → Mem → VW.R β} {b : β} {M' : Mem} (h : r.bind f = .ok b M') : ∃ a M1, r = .ok a M1 ∧ f a M1 = .ok b M' := by
  cases r with
  | ok a M1 => exact ⟨a, M1, rfl, h⟩
  | exc c M1 => cases h
  | bad => cases h
theorem of_ok {o : Option α} {M M' : Mem} {a : α} (h : VW.R.of o M = .ok a M') : o = some a ∧ M' = M := by
  cases o with
  | none => cases h
  | some b => cases h; exact ⟨rfl, rfl⟩
mutual
theorem noCall_mem : ∀ (c : VW.CE) (ρ : VW.Env) (M : Mem) (u : U) (M1 : Mem), c.noCall = true → evE Φ c ρ M = .ok u M1 → M1 = M
  | .var _, ρ, M, u, M1, _, h => by
    simp only [evE] at h
    split at h <;> cases h
    rfl
  | .lit _, ρ, M, u, M1, _, h => by simp only [evE] at h; cases h; rfl
  | .glo _ _, ρ, M, u, M1, _, h => by simp only [evE] at h; cases h; rfl
  | .tup es, ρ, M, u, M1, hn, h => by
    simp only [CE.noCall] at hn
    simp only [evE] at h
    obtain ⟨us, M2, h1, h2⟩ := bind_ok h
    have e := noCallL_mem es ρ M us M2 hn h1
    split at h2
    · split at h2
      · cases h2; exact e
      · cases h2
    · cases h2
  | .lst es, ρ, M, u, M1, hn, h => by
    simp only [CE.noCall] at hn
    simp only [evE] at h
    obtain ⟨us, M2, h1, h2⟩ := bind_ok h
    have e := noCallL_mem es ρ M us M2 hn h1
    split at h2
    · rw [(of_ok h2).2]; exact e
    · cases h2
  | .bin _ a b, ρ, M, u, M1, hn, h => by
    simp only [CE.noCall, Bool.and_eq_true] at hn
    simp only [evE] at h
    obtain ⟨x, M2, h1, h2⟩ := bind_ok h
    obtain ⟨y, M3, h3, h4⟩ := bind_ok h2
    rw [(of_ok h4).2, noCall_mem b ρ M2 y M3 hn.2 h3, noCall_mem a ρ M x M2 hn.1 h1]
  | .neg a, ρ, M, u, M1, hn, h => by
    simp only [CE.noCall] at hn
    simp only [evE] at h
    obtain ⟨x, M2, h1, h2⟩ := bind_ok h
    have e := noCall_mem a ρ M x M2 hn h1
    split at h2
    · cases h2; exact e
    · cases h2
  | .ix a b, ρ, M, u, M1, hn, h => by
    simp only [CE.noCall, Bool.and_eq_true] at hn
    simp only [evE] at h
    obtain ⟨x, M2, h1, h2⟩ := bind_ok h
    obtain ⟨y, M3, h3, h4⟩ := bind_ok h2
    rw [(of_ok h4).2, noCall_mem b ρ M2 y M3 hn.2 h3, noCall_mem a ρ M x M2 hn.1 h1]
  | .sl a lo hi, ρ, M, u, M1, hn, h => by
    simp only [CE.noCall, Bool.and_eq_true] at hn
    simp only [evE] at h
    obtain ⟨x, M2, h1, h2⟩ := bind_ok h
    obtain ⟨l, M3, h3, h4⟩ := bind_ok h2
    have e1 := noCall_mem a ρ M x M2 hn.1.1 h1
    have e2 := noCallL_mem lo ρ M2 l M3 hn.1.2 h3
    split at h4
    · obtain ⟨r, M4, h5, h6⟩ := bind_ok h4
      have e3 := noCallL_mem hi ρ M3 r M4 hn.2 h5
      split at h6
      · split at h6
        · rw [(of_ok h6).2, e3, e2, e1]
        · cases h6
      · cases h6
    · cases h4
  | .prim _ es, ρ, M, u, M1, hn, h => by
    simp only [CE.noCall] at hn
    simp only [evE] at h
    obtain ⟨us, M2, h1, h2⟩ := bind_ok h
    rw [(of_ok h2).2]
    exact noCallL_mem es ρ M us M2 hn h1
  | .lstR _, _, _, _, _, h, _ => by cases h
  | .dctR, _, _, _, _, h, _ => by cases h
  | .cmp _ _ _, _, _, _, _, h, _ => by cases h
  | .chain _ _ _ _ _, _, _, _, _, h, _ => by cases h
  | .boo _ _, _, _, _, _, h, _ => by cases h
  | .nt _, _, _, _, _, h, _ => by cases h
  | .ite _ _ _, _, _, _, _, h, _ => by cases h
  | .call _ _, _, _, _, _, h, _ => by cases h
  | .off, _, _, _, _, h, _ => by cases h
  | .told _ _ _, _, _, _, _, h, _ => by cases h
  | .met _ _ _, _, _, _, _, h, _ => by cases h
  | .lc _ _ _ _ _ _, _, _, _, _, h, _ => by cases h
theorem noCallL_mem : ∀ (cs : CEs) (ρ : VW.Env) (M : Mem) (us : List U) (M1 : Mem), cs.noCall = true → evL Φ cs ρ M = .ok us M1 → M1 = M
  | .nil, ρ, M, us, M1, _, h => by simp only [evL] at h; cases h; rfl
  | .cons c r, ρ, M, us, M1, hn, h => by
    simp only [CEs.noCall, Bool.and_eq_true] at hn
    simp only [evL] at h
    obtain ⟨x, M2, h1, h2⟩ := bind_ok h
    obtain ⟨xs, M3, h3, h4⟩ := bind_ok h2
    cases h4
    rw [noCallL_mem r ρ M2 _ _ hn.2 h3, noCall_mem c ρ M x M2 hn.1 h1]
end
end
/-- a call that is told: what it lets out becomes a pair of texts -/
def toldF (names : List Str) (P : Addr) (q : Str) (φ : List U → Mem → VW.R U) : List U → VW.Mem → VW.R U := fun us (M : VW.Mem) => match (M[0]? : Option VW.Cell) with
  | some (VW.Cell.tab P' q') => if P' = P ∧ q' = q then (match φ us M with
      | .ok u M' => .ok u M'
      | .exc c M' => if c ∈ names then .ok (.p (.tuple [.str "error", .str c])) M' else .bad
      | .bad => .bad) else .bad
  | _ => .bad
theorem Post.ext {F : Addr → Prop} {π : List Addr} {H H1 : Hp} (e : ExtN H H1) : Post F π H F π H1 :=
  ⟨⟨fun _ z => z, fun a u _ h t => e a u h t, fun a o u h => e a _ h (fun _ z => by cases z), fun a P h => e a _ h (fun _ z => by cases z)⟩, fun _ _ z => z, fun a o h _ t => e a o h t, fun a o h t => ⟨o, e a o h t, t⟩, fun _ z => .inl z, fun _ z => .inl z⟩
theorem noParams_eq {p : Arguments} (h : noParams p = true) : p = ⟨[], [], none, [], [], none, []⟩ := by
  unfold noParams at h
  split at h
  · rfl
  · cases h
section
variable {X : Cx}
theorem told_ok {G : St0} {ca : Str → Addr} {Φ Ψ : Fn} {sc : Scope} {E : XK} {names : List Str} {x m ve : Str} {stT stM : Stmt} {NM : List Str} {g fm CV c P : Addr} {cdg cdm : Value} {j : Nat} (D : ToldD X.K X.mg ca names x m ve stT stM NM g fm CV cdg cdm) (hdb : (x == ("__debug__" : Str)) = false)
    (hG : G.told = some x) (hnd : X.N.Nodup) (hsc : X.env.scope = sc) (TB : TabB X.base X.mg c P) (hcode : X.env.code = .ref c) (hr : Room (j + 2) X.A) (free : ∀ x ∈ G.free, X.mg x = none)
    (glob : ∀ x d, G.consts.lookup x = some d → ∃ v u, X.mg x = some u ∧ RelV v u ∧ ∀ F H, RpD F H v d)
    (fns : ∀ f ps, G.ar.lookup f = some ps → ∃ fa fd, X.mg f = some (.ref fa) ∧ PySem.W.keepIn X.K (.ref fa) = true ∧ Binds X.K fd ps [] ∧ FnOk X.prog X.w X.K X.mg X.base (L2N.CX X.prog X.w) j fa fd ps (spI ca (Ψ f) ps))
    (hΦ : ∀ t g, G.tolds.lookup t = some g → Φ t = toldF names P (X.env.qual ++ "<lambda>") (Ψ g)) : ToldOk G ca Φ X sc E := by
  intro x' t y ps cs e l scope params p1 p2 p3 p4 p5 hx ht har hgl hlam hpar hgs hok hlen hno hchk
  rw [hG] at hx
  cases hx
  have L : LamS X.env.scope scope := by rw [hsc]; exact lamS_by hlam
  have hgx : Gl X x := by
    unfold Gl Env.kindOf
    rw [hsc]
    unfold glB at hgl
    split at hgl <;> first | assumption | cases hgl
  cases noParams_eq hpar
  have chk : chkE G X.N (.call y cs) scope (fun _ => false) (.Call (.Name y p2) (e :: l) [] p3) = true := by
    simp only [chkE, har, Bool.and_eq_true, beq_self_eq_true, true_and]
    exact ⟨⟨⟨hgs, hok⟩, by simpa using hlen⟩, hchk⟩
  refine PE.imp (pe_told (T := [(P, X.env.qual ++ "<lambda>")]) (t := fun E' => tE ca Ψ E' (.call y cs)) D hgx hdb TB hcode List.mem_cons_self (fun p hp _ => by rw [List.mem_singleton.mp hp]) hr L rfl (fun _ _ _ _ _ => rfl) (fun A outer s H E' f c' hr2 => ?_)) fun σ H Q ⟨F, π, ρ, M, hrho, hm, h⟩ => ?_
  · have gl : Good G ca (lamN X A outer s H E' scope f c') scope (fun _ => false) j Ψ E' := ⟨rfl, hnd, rfl, fun _ z => (by cases z), hr2, L2N.passes_call lamN_takes fun _ _ _ _ z => z, free, glob, fns⟩
    exact (sndE (.call y cs) (lamN X A outer s H E' scope f c') scope (fun _ => false) E' _ gl (fun z => by cases z) chk).pe
  · simp only [evE] at h
    cases ea : evL Φ cs ρ M with
    | exc c1 M1 => rw [ea] at h; exact False.elim h
    | bad => rw [ea] at h; exact False.elim h
    | ok us M1 =>
      rw [ea] at h
      have eM := noCallL_mem cs ρ M us M1 hno ea
      subst eM
      have h : Out ca E F π H (Φ t us M1) (VQ F π H Q) := h
      rw [hΦ t y ht] at h
      unfold toldF at h
      split at h
      · rename_i P' q' hM
        split at h
        · rename_i heq
          obtain ⟨rfl, rfl⟩ := heq
          obtain ⟨aP, ha, hc⟩ := hm.at hM
          obtain ⟨rfl, hTab⟩ := hc
          refine ⟨fun p hp => by rw [List.mem_singleton.mp hp]; exact hTab, fun H1 eN T1 => ?_⟩
          have p1' : Post F π H F π H1 := Post.ext eN
          have m1 : MemR F π H1 M1 := ⟨hm.len, hm.nd, hm.nf, fun a f => ?_, hm.tb, fun n c0 a hc0 ha0 => ?_⟩
          · have eL : evL Ψ cs ρ M1 = .ok us M1 := by rw [evL_noCall (Φ := Ψ) (Ψ := Φ) cs ρ M1 hno]; exact ea
            refine ⟨F, π, ρ, M1, hrho.mono p1', m1, ?_⟩
            simp only [evE, eL]
            show Out ca _ F π H1 (Ψ y us M1) (VQ F π H1 Q)
            cases er : Ψ y us M1 with
            | bad => rw [er] at h; exact False.elim h
            | ok u M2 =>
              rw [er] at h
              have h : VQ F π H Q u M2 := h
              exact h.move p1'
            | exc c2 M2 =>
              rw [er] at h
              have h : Out ca E F π H (if c2 ∈ names then VW.R.ok (.p (.tuple [.str "error", .str c2])) M2 else .bad) (VQ F π H Q) := h
              split at h
              · rename_i hin
                have q : VQ F π H Q (.p (.tuple [.str "error", .str c2])) M2 := h
                intro F' π' H' p' m'
                refine ⟨c2, hin, rfl, rfl, fun H2 g2 T2 o2 hT2 ho2 => ?_⟩
                have pg : Post F' π' H' F' π' H2 := ⟨⟨fun _ z => z, fun a u _ h _ => g2 a u h, fun a o u h => g2 a _ h, fun a P h => g2 a _ h⟩, fun _ _ z => z, fun a o h _ _ => g2 a o h, fun a o h t => ⟨o, g2 a o h, t⟩, fun _ z => .inl z, fun _ z => .inl z⟩
                have mg : MemR F' π' H2 M2 := ⟨m'.len, m'.nd, m'.nf, fun a f => let ⟨o, e, t⟩ := m'.ft a f; ⟨o, g2 a o e, t⟩, m'.tb, fun n c0 a hc0 ha0 => (m'.cell n c0 a hc0 ha0).mono pg.le (fun _ _ z => z) (by
                  obtain ⟨o, e, _⟩ := m'.there (List.mem_of_getElem? ha0)
                  rw [g2 a o e, e])⟩
                have sq : SQ F π H Q (.p (.tuple [.str "error", .str c2])) M2 := VQ.strong q
                exact ((sq.move (p1'.trans p')).move pg).tup mg (.cons (.str _) (.cons (.str _) .nil)) hT2 ho2
              · exact False.elim h
          · obtain ⟨o, e, t⟩ := hm.ft a f
            exact ⟨o, eN a o e t, t⟩
          · have q := hm.cell n c0 a hc0 ha0
            cases c0 with
            | tab P2 q2 =>
              have := hm.tb n P2 q2 hc0
              subst this
              rw [hM] at hc0
              cases hc0
              exact ⟨q.1, T1 _ List.mem_cons_self⟩
            | pl ds => obtain ⟨vs, e, r⟩ := q; exact ⟨vs, eN _ _ e nt_lst, r.mono p1'.le⟩
            | rl ds => obtain ⟨vs, e, r⟩ := q; exact ⟨vs, eN _ _ e nt_lst, r⟩
            | dct _ => exact q.elim
            | ins _ _ => exact q.elim
        · exact False.elim h
      · exact False.elim h
end
end VW
end
section
set_option maxHeartbeats 1000000
/-! From what the head tells to the world that the defs stand in; the law's def. -/
namespace VW
open PySem PySem.Spec L2 LamX
/-! ### binding -/
def simpleP (ps : List Str) : Arguments → Bool
  | ⟨[], as, none, [], [], none, []⟩ => decide (as.map (·.arg) = ps)
  | _ => false
theorem zip_some {α : Type} : ∀ {ps : List Str} {us : List α} {n : Str}, us.length = ps.length → n ∈ ps → ((ps.zip us).lookup n).isSome = true
  | [], _, _, _, h => by cases h
  | p :: ps, u :: us, n, hl, h => by
    rw [List.zip_cons_cons, List.lookup_cons]
    cases hb : n == p with
    | true => rfl
    | false =>
      rcases List.mem_cons.mp h with e | e
      · subst e; simp at hb
      · exact zip_some (by simpa using hl) e
  | _ :: _, [], _, hl, _ => by cases hl
theorem fmc {α β : Type} {f g : α → Option β} : ∀ {l : List α}, (∀ x ∈ l, f x = g x) → l.filterMap f = l.filterMap g
  | [], _ => rfl
  | a :: l, h => by
    rw [List.filterMap_cons, List.filterMap_cons, h a List.mem_cons_self, fmc fun x hx => h x (List.mem_cons_of_mem _ hx)]
theorem zip_look {α : Type} : ∀ {ps : List Str} {us : List α}, us.length = ps.length → ps.Nodup → ps.filterMap (fun n => Option.map (fun x => (n, x)) (List.lookup n (ps.zip us))) = ps.zip us
  | [], [], _, _ => rfl
  | p :: ps, u :: us, hl, hn => by
    rw [List.nodup_cons] at hn
    have ih := zip_look (ps := ps) (us := us) (by simpa using hl) hn.2
    rw [List.zip_cons_cons, List.filterMap_cons, List.lookup_cons, beq_self_eq_true]
    have e : ps.filterMap (fun n => Option.map (fun x => (n, x)) (List.lookup n ((p, u) :: ps.zip us))) = ps.filterMap (fun n => Option.map (fun x => (n, x)) (List.lookup n (ps.zip us))) := by
      refine fmc fun n h => ?_
      have : (n == p) = false := by
        apply beq_eq_false_iff_ne.mpr
        intro z
        exact hn.1 (z ▸ h)
      rw [List.lookup_cons, this]
    simp only [Option.map_some]
    rw [e, ih]
  | [], _ :: _, hl, _ => by cases hl
  | _ :: _, [], hl, _ => by cases hl
theorem bind_simple {x : Str} {params : Arguments} {body : List Stmt} {scope : Scope} {ps : List Str} (h : simpleP ps params = true) (hn : ps.Nodup) (kV doc pm : Value) (an : Option Addr) (cdv ct : Value) (us : List Value) (hl : us.length = ps.length) :
    bindArgs (PySem.W.fnOf x x params body scope .none kV doc pm an cdv ct) ⟨us, []⟩ = pure (ps.zip us) := by
  unfold simpleP at h
  split at h
  · rename_i as
    have e : as.map (·.arg) = ps := by simpa using h
    unfold bindArgs PySem.W.fnOf
    have hm : (ps.filter fun n => ((ps.zip us).lookup n).isNone) = [] := by
      rw [List.filter_eq_nil_iff]
      intro n hn
      have := zip_some hl hn
      cases hh : (ps.zip us).lookup n with
      | none => rw [hh] at this; cases this
      | some _ => simp
    simp [e, hl, hm, seqItems?, zip_look hl hn]
    rfl
  · cases h
/-! ### the head's word -/
def toD (x : Str) (st : Stmt) : He.DefD := ⟨(x, none), x, x, defArgs st, defBody st, defScope st, [], []⟩
def Entry.dd (e : Entry) : He.DefD := toD e.name e.st
def constFa (p : Str × D) : He.Fa := match p.2 with
  | .int i => .int p.1 i
  | .str z => .str p.1 z
  | _ => .free p.1
def constB (p : Str × D) : Bool := match p.2 with
  | .int _ => true
  | .str _ => true
  | _ => false
/-- the facts that the head is asked -/
def fasOf (G : St0) (T : List Entry) (more : List He.Fa) : List He.Fa := T.map (fun e => He.Fa.glo e.name) ++ (G.free.map He.Fa.free ++ (G.consts.map constFa ++ (G.excs.map He.Fa.exc ++ (G.excs.map He.Fa.glo ++ more))))
def fnsOf (T : List Entry) (more : List He.DefD) : List He.DefD := T.map Entry.dd ++ more
def simpleT (T : List Entry) : Bool := T.all fun e => simpleP e.d.ps (defArgs e.st) && decide e.d.ps.Nodup
theorem mem_lookup' {α : Type} {x : Str} {d : α} : ∀ {l : List (Str × α)}, l.lookup x = some d → (x, d) ∈ l := fun h => PySem.mem_of_lookup h
theorem world_of {G : St0} {T : List Entry} {K : PySem.W.Frag} {mg : Str → Option Value} {h : Heap} {more : List He.Fa} {moreD : List He.DefD} (KX : K.In h) (hns : h.Ns mainGlobals mg) (c : He.SaysD (fasOf G T more) (fnsOf T moreD) K)
    (ht : G.told = none) (ha : G.ar = arOf T) (hc : T.all (chkD G) = true) (hs : simpleT T = true) (hk : G.consts.all constB = true) : World1 G (He.ga K) T K mg where
  told := ht
  ar := ha
  chk := hc
  free := fun x hx => He.free_ok KX hns (c.facts (f := .free x) (by unfold fasOf; simp only [List.mem_append, List.mem_map]; exact .inr (.inl ⟨x, hx, rfl⟩)))
  glob := fun x d hd => by
    have hm := mem_lookup' hd
    have hf := c.facts (f := constFa (x, d)) (by unfold fasOf; simp only [List.mem_append, List.mem_map]; exact .inr (.inr (.inl ⟨(x, d), hm, rfl⟩)))
    have hb := List.all_eq_true.mp hk _ hm
    cases d with
    | int i =>
      obtain ⟨t, e⟩ := He.int_ok KX hns hf
      exact ⟨.int i, _, e, ⟨t, rfl⟩, fun F H => .int i⟩
    | str z =>
      obtain ⟨t, e⟩ := He.str_ok KX hns hf
      exact ⟨.str z, _, e, ⟨t, rfl⟩, fun F H => .str z⟩
    | _ => cases hb
  excs := fun x hx => by
    have h1 := c.facts (f := .exc x) (by unfold fasOf; simp only [List.mem_append, List.mem_map]; exact .inr (.inr (.inr (.inl ⟨x, hx, rfl⟩))))
    have h2 := c.facts (f := .glo x) (by unfold fasOf; simp only [List.mem_append, List.mem_map]; exact .inr (.inr (.inr (.inr (.inl ⟨x, hx, rfl⟩)))))
    obtain ⟨a1, h3⟩ := He.ba h1
    obtain ⟨a2, h4⟩ := He.ba h3
    obtain ⟨a3, a4⟩ := He.ba h4
    exact ⟨a1, He.glo_ok KX hns h2, a2, of_decide_eq_true a3, of_decide_eq_true a4⟩
  fns := fun e he => by
    have h1 := c.facts (f := .glo e.name) (by unfold fasOf; simp only [List.mem_append, List.mem_map]; exact .inl ⟨e, he, rfl⟩)
    obtain ⟨fd, F⟩ := c.defs (d := e.dd) (by unfold fnsOf; simp only [List.mem_append, List.mem_map]; exact .inl ⟨e, he, rfl⟩)
    have hp := List.all_eq_true.mp hs e he
    rw [Bool.and_eq_true] at hp
    exact ⟨_, fd, He.glo_ok KX hns h1, F, FunD.bindsN (ps := e.d.ps) F fun kV doc pm an cdv ct us hl => bind_simple hp.1 (by simpa using hp.2) kV doc pm an cdv ct us hl⟩
end VW
end
section
set_option maxHeartbeats 1000000
/-! The law's def, and the end. -/
namespace VW
open PySem PySem.Spec L2 LamX
theorem defK_of {K : PySem.W.Frag} {x : Str} {st : Stmt} {N ps : List Str} {f : Addr} {fd : FuncData} (F : FunD K x x (defArgs st) (defBody st) (defScope st) [] [] f fd) (S : FnScope N ps (defScope st)) (hp : simpleP ps (defArgs st) = true) (hn : ps.Nodup) : ∃ cdv, DefK K x st N ps f cdv := by
  have hb := FunD.bindsN (ps := ps) F fun kV doc pm an cdv ct us hl => bind_simple hp hn kV doc pm an cdv ct us hl
  have kp := F.kp
  obtain ⟨oc, od, dV, kV, doc, pm, an, cdv, ct, osl, rfl, lk, hcd, _, _⟩ := F.ex
  exact ⟨cdv, ⟨oc, od, dV, kV, doc, pm, an, ct, osl, lk, hb⟩, kp, hcd, S⟩
/-- what the law calls: the table's defs; what is told, two frames deeper -/
def lawF (names : List Str) (P : Addr) (q : Str) (tolds : List (Str × Str)) (T : List (Str × CDef)) (j : Nat) : Fn := fun f => match tolds.lookup f with
  | some g => toldF names P q (run T j g)
  | none => run T (j + 2) f
def lamQ (x : Str) : Str := (x ++ ".<locals>.") ++ "<lambda>"
theorem law_ok {G : St0} {ca : Str → Addr} {T : List Entry} {P : Program} {w : World} {K : PySem.W.Frag} {mg : Str → Option Value} {base : Heap} (W : World1 G ca T K mg) {e : Entry} {f c Pt : Addr} {names : List Str} {tolds : List (Str × Str)} {x m ve : Str} {stT stM : Stmt} {NM : List Str} {g fm CV : Addr} {cdg cdm : Value} {j : Nat} {fd : FuncData}
    (F : FunD K e.name e.name (defArgs e.st) (defBody e.st) (defScope e.st) [] [] f fd) (hcd : fd.code = .ref c) (D : ToldD K mg ca names x m ve stT stM NM g fm CV cdg cdm) (hdb : (x == ("__debug__" : Str)) = false)
    (hc : chkD { G with told := some x, tolds := tolds } e = true) (TB : TabB base mg c Pt) (hap : ∀ f ps, G.ar.lookup f = some ps → tolds.lookup f = none) :
    FnOk P w K mg base (L2N.CX P w) (j + 3) f fd e.d.ps (spI ca (runDef (lawF names Pt (lamQ e.name) tolds (tblOf T) j) e.d) e.d.ps) := by
  unfold chkD at hc
  rw [Bool.and_eq_true] at hc
  have S := fnScope_of hc.1
  obtain ⟨oc, od, dV, kV, doc, pm, an, cdv, ct, osl, rfl, lk, hcode, _, _⟩ := F.ex
  have hcd : cdv = .ref c := hcd
  subst hcd
  refine fn_of (k := j + 2) lk hcode S (fun _ _ _ _ h => spI_len h) fun A outer s H vs Q E hr h => ⟨tSs ca E (lawF names Pt (lamQ e.name) tolds (tblOf T) j) e.d.body, ?_, ?_⟩
  · have tk : L2N.Takes (cxOf (L2N.CX P w) P w K mg base e.d.N e.name (defScope e.st) f (.ref c) A outer s H E) (fun cls d _ H => E cls d H) := L2N.takes_of rfl rfl rfl rfl
    have fns : ∀ n f ps, G.ar.lookup f = some ps → ∃ fa fd, mg f = some (.ref fa) ∧ PySem.W.keepIn K (.ref fa) = true ∧ Binds K fd ps [] ∧ FnOk P w K mg base (L2N.CX P w) n fa fd ps (spI ca (run (tblOf T) n f) ps) := fun n f ps hf => fns_ok W n f ps hf
    refine sndSs (G := { G with told := some x, tolds := tolds }) (k := j + 2) (sc := defScope e.st) ⟨⟨rfl, S.nd, rfl, fun _ _ => rfl, hr, L2N.passes_call tk fun _ _ _ _ z => z, W.free, W.glob, fun f ps hf => ?_⟩, tk, passes_of rfl, S.kind, W.excs⟩
      (told_ok (Ψ := run (tblOf T) j) (names := names) (j := j) D hdb rfl S.nd rfl TB rfl hr W.free W.glob (fns j) fun t g ht => ?_) _ _ hc.2
    · have e1 : lawF names Pt (lamQ e.name) tolds (tblOf T) j f = run (tblOf T) (j + 2) f := by
        unfold lawF
        rw [hap f ps hf]
      rw [e1]
      exact fns (j + 2) f ps hf
    · unfold lawF
      have ht : tolds.lookup t = some g := ht
      rw [ht]
      rfl
  · obtain ⟨F0, π, M, us, hm, r, hul, z⟩ := h
    simp only [runDef, hul, if_true] at z
    exact ⟨F0, π, _, M, env_start r, hm, by rw [hul]; exact body_out hm z⟩
/-! ### the end -/
/-- K holds no list -/
def noListB (K : PySem.W.Frag) : Bool := K.all fun p => !decide (p.2.cls = .type "list")
theorem noList {K : PySem.W.Frag} (h : noListB K = true) {a : Addr} {o : Obj} (hk : K.lookup a = some o) : o.cls ≠ .type "list" := fun z => by
  have := List.all_eq_true.mp h (a, o) (He.lookup_mem hk)
  simp [z] at this
/-- what the law is asked: told in plain words -/
def Plain (names : List Str) (tolds : List (Str × Str)) (T : List (Str × CDef)) (j n : Nat) (d : CDef) (x : Str) : Prop :=
  ∀ (P : Addr) (ns : List Int), ns.length ≤ n → (∀ z ∈ ns, Builtin.Int.intBits z ≤ 1048576) → ∃ M', runDef (lawF names P (lamQ x) tolds T j) d [.scr (ns.map .int)] [.tab P (lamQ x)] = .ok (.p (.bool true)) M'
theorem law_sp {ca : Str → Addr} {K : PySem.W.Frag} {names : List Str} {tolds : List (Str × Str)} {T : List (Str × CDef)} {j n : Nat} {d : CDef} {x y : Str} {Pt : Addr} (hp : Plain names tolds T j n d x) (hk : noListB K = true) (H : Hp) (a : Addr) (ns : List Int) (hl : ns.length ≤ n) (hb : ∀ z ∈ ns, Builtin.Int.intBits z ≤ 1048576)
    (ht : H Pt = some (.tbl #[])) (hs : SqL K H a (ns.map V.int)) : spI ca (runDef (lawF names Pt (lamQ x) tolds T j) d) [y] [.ref a] H (fun v _ => v = .bl true) fun _ _ _ => False := by
  obtain ⟨M', e⟩ := hp Pt ns hl hb
  have rd : ∀ F : Addr → Prop, RpDs F H (ns.map V.int) (ns.map PyData.int) := fun F => rp_ints ns
  have fin : ∀ F : Addr → Prop, (∀ b, F b → b = a ∧ ∃ vs, H b = some (.lst vs)) → ((F a ∧ H a = some (.lst (ns.map V.int))) ∨ ∃ o, H a = some (.frz o (.lst (ns.map V.int)))) → spI ca (runDef (lawF names Pt (lamQ x) tolds T j) d) [y] [.ref a] H (fun v _ => v = .bl true) fun _ _ _ => False := fun F hF hq => by
    refine ⟨F, [Pt], [.tab Pt (lamQ x)], [.scr (ns.map .int)], ⟨rfl, by simp, fun b hb f => ?_, fun b f => ?_, fun i P q h => ?_, fun i c b hc hb => ?_⟩, .cons (.scr hq (rd F)) .nil, rfl, ?_⟩
    · rw [List.mem_singleton.mp hb] at f
      obtain ⟨_, vs, z⟩ := hF _ f
      rw [ht] at z
      cases z
    · obtain ⟨_, vs, z⟩ := hF b f
      exact ⟨_, z, nt_lst⟩
    · cases i with
      | zero => rfl
      | succ i => cases h
    · cases i with
      | zero => cases hc; cases hb; exact ⟨rfl, TabS.nil ht⟩
      | succ i => cases hc
    · rw [e]
      intro v F' π' H' _ _ r
      cases r with
      | p r => cases r; rfl
  rcases hs with (hs | ⟨o, hs⟩) | ⟨o, its, m, ho, hcls, _⟩
  · exact fin (fun b => b = a) (fun b hb => ⟨hb, ns.map V.int, by rw [hb]; exact hs⟩) (.inl ⟨rfl, hs⟩)
  · exact fin (fun _ => False) (fun b hb => hb.elim) (.inr ⟨o, hs⟩)
  · exact absurd hcls (noList hk ho)
/-- a law's row, as data -/
structure LawRow where
  G : St0
  T : List Entry
  law : Entry
  stT : Stmt
  stM : Stmt
  NM : List Str
  tolds : List (Str × Str)
  names : List Str
  ve : Str
def LawRow.fa (r : LawRow) : List He.Fa := fasOf r.G r.T ([.glo r.law.name, .glo "_law_told", .glo "_law_term", .glo r.ve] ++ r.names.map fun c => .exm c r.ve true)
def LawRow.fn (r : LawRow) : List He.DefD := fnsOf r.T [toD "_law_told" r.stT, toD "_law_term" r.stM, toD r.law.name r.law.st]
/-- what is looked at in the row -/
structure LawRow.Ok (r : LawRow) : Prop where
  told : r.G.told = none
  ar : r.G.ar = arOf r.T
  chk : r.T.all (chkD r.G) = true
  simp : simpleT r.T = true
  cons : r.G.consts.all constB = true
  law : chkD { r.G with told := some "_law_told", tolds := r.tolds } r.law = true
  lawP : r.law.d.ps = (["script"] : List Str)
  lawS : simpleP ["script"] (defArgs r.law.st) = true
  ap : ∀ f ps, r.G.ar.lookup f = some ps → r.tolds.lookup f = none
  toldS : fnScopeB ["deed", "e"] ["deed"] (defScope r.stT) = true
  toldP : simpleP ["deed"] (defArgs r.stT) = true
  termS : fnScopeB r.NM ["e"] (defScope r.stM) = true
  termP : simpleP ["e"] (defArgs r.stM) = true
  NM1 : 1 ≤ r.NM.length
  body : ∃ p1 p2 p3 p4 p5 p6 p7 p8 p9 p10, defBody r.stT = [.Try [.Return (some (.Call (.Name "deed" p1) [] [] p2)) p3] [.ExceptHandler (some (.Name r.ve p4)) (some "e") [.Return (some (.Call (.Name "_law_term" p5) [.Name "e" p6] [] p7)) p8] p9] [] [] p10]
  gV : (defScope r.stT).names.lookup r.ve = some .globalImplicit
  gM : (defScope r.stT).names.lookup ("_law_term" : Str) = some .globalImplicit
  lE : (defScope r.stT).names.lookup ("e" : Str) = some .local
  lD : (defScope r.stT).names.lookup ("deed" : Str) = some .local
  oV : (r.ve == ("__debug__" : Str)) = false
/-- the end: from the head's word and the plain word -/
theorem lawAt {l : PySem.W.OpenLaw} {w : World} {K : PySem.W.Frag} {mg : Str → Option Value} {fa : Addr} {h : Heap} {r : LawRow} {ex : PySem.W.Frag → Bool} {j n : Nat} (ok : r.Ok) (KX : K.In h) (hns : h.Ns mainGlobals mg) (hmg : mg r.law.name = some (.ref fa)) (c : He.SaysX r.fa r.fn [] [(r.law.name, none)] ex w h K) (hex : noListB K = true)
    (term : ∀ fm cdm, mg "_law_term" = some (.ref fm) → DefK K "_law_term" r.stM r.NM ["e"] fm cdm → TermOk K mg (He.ga K) r.names "_law_term" r.stM r.NM fm cdm) (hp : Plain r.names r.tolds (tblOf r.T) j n r.law.d r.law.name) :
    LawAtS l w K (L2N.CX l.prog w) (j + 3) n "script" mg fa h := by
  have cd : He.SaysD r.fa r.fn K := c.t.d
  have W : World1 r.G (He.ga K) r.T K mg := world_of KX hns cd ok.told ok.ar ok.chk ok.simp ok.cons
  have fct : ∀ f, f ∈ ([He.Fa.glo r.law.name, .glo "_law_told", .glo "_law_term", .glo r.ve] ++ r.names.map fun c => He.Fa.exm c r.ve true) → f.ok K = true := fun f hf => cd.facts (by unfold LawRow.fa fasOf; simp only [List.mem_append]; exact .inr (.inr (.inr (.inr (.inr (by simpa only [List.mem_append] using hf))))))
  have dfn : ∀ d, d ∈ [toD "_law_told" r.stT, toD "_law_term" r.stM, toD r.law.name r.law.st] → ∃ fd, FunD K d.name d.qual d.params d.body d.scope (d.dvs K) (d.kws K) (He.fAd K d.at_) fd := fun d hd => cd.defs (by unfold LawRow.fn fnsOf; exact List.mem_append_right _ hd)
  have glo : ∀ x, He.Fa.glo x ∈ ([He.Fa.glo r.law.name, .glo "_law_told", .glo "_law_term", .glo r.ve] ++ r.names.map fun c => He.Fa.exm c r.ve true) → mg x = some (.ref (He.ga K x)) := fun x hx => He.glo_ok KX hns (fct _ hx)
  obtain ⟨fdT, FT⟩ := dfn (toD "_law_told" r.stT) (by simp)
  obtain ⟨fdM, FM⟩ := dfn (toD "_law_term" r.stM) (by simp)
  obtain ⟨fdL, FL⟩ := dfn (toD r.law.name r.law.st) (by simp)
  have gT := glo "_law_told" (by simp)
  have gM := glo "_law_term" (by simp)
  have gV := glo r.ve (by simp)
  obtain ⟨cdg, KT⟩ := defK_of (N := ["deed", "e"]) (ps := ["deed"]) FT (fnScope_of ok.toldS) ok.toldP (by decide)
  obtain ⟨cdm, KM⟩ := defK_of (N := r.NM) (ps := ["e"]) FM (fnScope_of ok.termS) ok.termP (by decide)
  have TD : ToldD K mg (He.ga K) r.names "_law_told" "_law_term" r.ve r.stT r.stM r.NM _ _ _ cdg cdm := ⟨KT, gT, KM, gM, ok.NM1, gV, ok.body, ok.gV, ok.gM, ok.lE, ok.lD, ok.oV, by decide, fun cn hcn => by
    have := fct (.exm cn r.ve true) (by simp only [List.mem_append, List.mem_map]; exact .inr ⟨cn, hcn, rfl⟩)
    exact of_decide_eq_true this, term _ _ gM KM⟩
  have eL : fa = He.ga K r.law.name := by
    have := hmg.symm.trans (glo r.law.name (by simp))
    cases this
    rfl
  subst eL
  -- the law's code object and its table
  have FL' : FunD K r.law.name r.law.name (defArgs r.law.st) (defBody r.law.st) (defScope r.law.st) [] [] (He.ga K r.law.name) fdL := FL
  obtain ⟨cc, hcc⟩ : ∃ cc, fdL.code = .ref cc := by
    obtain ⟨oc, od, dV, kV, doc, pm, an, cdv, ct, osl, rfl, lk, hcd, _, _⟩ := FL'.ex
    exact He.codeIn_ref hcd
  have ecT : (He.cT K (r.law.name, none)).1 = cc := by
    obtain ⟨oc, od, dV, kV, doc, pm, an, cdv, ct, osl, e, lk, hcd, _, _⟩ := FL'.ex
    exact He.codeOf_eq (p := (r.law.name, none)) lk hcc
  have hbA := FunD.bindsA (ps := ["script"]) FL' fun kV doc pm an cdv ct us hl => bind_simple ok.lawS (by decide) kV doc pm an cdv ct us hl
  refine ⟨fdL, [He.cT K (r.law.name, none)], spI (He.ga K) (runDef (lawF r.names (He.cT K (r.law.name, none)).2 (lamQ r.law.name) r.tolds (tblOf r.T) j) r.law.d) ["script"], fun p hp => ?_, fun p hp => ?_, fun p hp => ?_, fun s u => hbA s [u] rfl, fun H a ns hl hb hT hS => ?_, fun base KB hnsB TB => ?_⟩
  · rw [List.mem_singleton.mp hp]; exact c.empty _ List.mem_cons_self
  · rw [List.mem_singleton.mp hp]; exact c.out _ List.mem_cons_self
  · rw [List.mem_singleton.mp hp]; exact PySem.W.codeHd_of_K KX (c.hd _ List.mem_cons_self)
  · exact law_sp hp hex H a ns hl hb (hT _ List.mem_cons_self) hS
  · have tb := TB _ List.mem_cons_self
    rw [ecT] at tb
    have := law_ok (P := l.prog) (w := w) (base := base) W (e := r.law) (j := j) FL' hcc TD (by decide) ok.law tb ok.ap
    rw [ok.lawP] at this
    exact this
end VW
end
section
set_option maxHeartbeats 2000000
/-! Written by genterm.py: the def that names an exception, walked while the exception is handled. -/
namespace VW
open PySem PySem.Spec PyProof.Rows L2 HotX L2H LamX
def cls11 : List Str := ["InvalidForest", "InvalidInput", "InvalidPart", "InvalidTree", "InvalidIndex", "InvalidBox", "InvalidFlag", "InvalidText", "NoFit", "TooMany", "NothingToUndo"]
def gl3 : List Str := ["isinstance", "sum", "ValueError"]
def fr4 : List Str := ["isinstance", "sum", "int", "ValueError"]
def NM4 : List Str := ["e", "flags", "kinds", "flag"]
structure TermF (K : PySem.W.Frag) (mg : Str → Option Value) (ca : Str → Addr) (names : List Str) : Prop where
  exc : ∀ c ∈ names, ExcC K (ca c)
  kit : ∀ c ∈ names, ∀ d ∈ cls11, PySem.W.kitOne K (.ref (ca c)) (.ref (ca d)) = some (d == c)
  ve : ∀ c ∈ names, PySem.W.kitOne K (.ref (ca c)) (.type "ValueError") = some true
  glo : ∀ d ∈ cls11, mg d = some (.ref (ca d))
  sub : ∀ c ∈ names, c ∈ cls11
  free : ∀ x ∈ fr4, mg x = none
/-- the scope's words -/
structure TermS (sc sc1 : Scope) : Prop where
  gl : ∀ x ∈ gl3 ++ cls11, sc.names.lookup x = some .globalImplicit
  e : sc.names.lookup ("e" : Str) = some .local
  flags : sc.names.lookup ("flags" : Str) = some .local
  kinds : sc.names.lookup ("kinds" : Str) = some .local
  blk : blkC NM4 sc sc1 [("flag", 3)] = true
  flag : (relS sc1 sc).names.lookup ("flag" : Str) = some .local
  int : (relS sc1 sc).names.lookup ("int" : Str) = some .globalImplicit

theorem index_of : ∀ (l : List Str) (c : Str), c ∈ l → ∃ j : Nat, l[j]? = some c ∧ (l.map (· == c))[j]? = some true ∧ ∀ m, m < j → (l.map (· == c))[m]? = some false
  | [], c, h => by cases h
  | x :: l, c, h => by
    by_cases e : x = c
    · exact ⟨0, by simp [e], by simp [e], fun m hm => by omega⟩
    · obtain ⟨j, h1, h2, h3⟩ := index_of l c ((List.mem_cons.mp h).resolve_left (fun z => e z.symm))
      refine ⟨j + 1, by simpa using h1, by simpa using h2, fun m hm => ?_⟩
      cases m with
      | zero => simp [e]
      | succ m => simpa using h3 m (by omega)
theorem sum_of : ∀ (l : List Str) (c : Str), l.Nodup → c ∈ l → ((l.map (· == c)).map bit).sum = 1
  | [], c, _, h => by cases h
  | x :: l, c, hn, h => by
    rw [List.nodup_cons] at hn
    by_cases e : x = c
    · subst e
      have z : ∀ l : List Str, x ∉ l → ((l.map (· == x)).map bit).sum = 0 := fun l => by
        induction l with
        | nil => intro _; rfl
        | cons y l ih =>
          intro hh
          rw [List.mem_cons, not_or] at hh
          have : (y == x) = false := by simpa using fun z => hh.1 z.symm
          simp only [List.map_cons, List.sum_cons, this, ih hh.2]
          rfl
      simp only [List.map_cons, List.sum_cons, z l hn.1, beq_self_eq_true]
      rfl
    · have : (x == c) = false := by simpa using e
      simp only [List.map_cons, List.sum_cons, this, sum_of l c hn.2 ((List.mem_cons.mp h).resolve_left (fun z => e z.symm))]
      rfl
theorem term_ok {K : PySem.W.Frag} {mg : Str → Option Value} {ca : Str → Addr} {names : List Str} {x : Str} {st : Stmt} {f : Addr} {cdv : Value} {sc1 : Scope} {q1 q2 q3 q4 q5 q6 q7 q8 q9 q10 q11 q12 q13 q14 q15 q16 q17 q18 q19 q20 q21 q22 q23 q24 q25 q26 q27 q28 q29 q30 q31 q32 q33 q34 q35 q36 q37 q38 q39 q40 q41 q42 q43 q44 q45 q46 q47 q48 q49 q50 q51 q52 q53 q54 q55 q56 q57 q58 q59 q60 q61 q62 q63 q64 q65 q66 q67 q68 q69 q70 q71 q72 q73 q74 q75 q76 q77 q78 q79 q80 q81 q82 q83 q84 q85 q86 q87 q88 q89 q90 q91 q92 q93 q94 q95 q96 q97 q98 q99 q100 q101 q102 q103 q104 q105 q106 q107 q108 q109 q110 q111 : Pos} (F : TermF K mg ca names) (S : TermS (defScope st) sc1)
    (hb : defBody st = [.Assign [.Name "flags" q14] (.List [.Call (.Name "isinstance" q1) [.Name "e" q2, .Name "InvalidForest" q3] [] q4, .Call (.Name "isinstance" q5) [.Name "e" q6, .Name "InvalidInput" q7] [] q8, .Call (.Name "isinstance" q9) [.Name "e" q10, .Name "InvalidPart" q11] [] q12] q13) q15,
      .Assign [.Name "flags" q31] (.BinOp (.Name "flags" q29) .Add (.List [.Call (.Name "isinstance" q16) [.Name "e" q17, .Name "InvalidTree" q18] [] q19, .Call (.Name "isinstance" q20) [.Name "e" q21, .Name "InvalidIndex" q22] [] q23, .Call (.Name "isinstance" q24) [.Name "e" q25, .Name "InvalidBox" q26] [] q27] q28) q30) q32,
      .Assign [.Name "flags" q48] (.BinOp (.Name "flags" q46) .Add (.List [.Call (.Name "isinstance" q33) [.Name "e" q34, .Name "InvalidFlag" q35] [] q36, .Call (.Name "isinstance" q37) [.Name "e" q38, .Name "InvalidText" q39] [] q40, .Call (.Name "isinstance" q41) [.Name "e" q42, .Name "NoFit" q43] [] q44] q45) q47) q49,
      .Assign [.Name "flags" q61] (.BinOp (.Name "flags" q59) .Add (.List [.Call (.Name "isinstance" q50) [.Name "e" q51, .Name "TooMany" q52] [] q53, .Call (.Name "isinstance" q54) [.Name "e" q55, .Name "NothingToUndo" q56] [] q57] q58) q60) q62,
      .Assign [.Name "kinds" q70] (.List [.Constant (.str "InvalidForest") 0 q63, .Constant (.str "InvalidInput") 0 q64, .Constant (.str "InvalidPart") 0 q65, .Constant (.str "InvalidTree") 0 q66, .Constant (.str "InvalidIndex") 0 q67, .Constant (.str "InvalidBox") 0 q68] q69) q71,
      .Assign [.Name "kinds" q80] (.BinOp (.Name "kinds" q78) .Add (.List [.Constant (.str "InvalidFlag") 0 q72, .Constant (.str "InvalidText") 0 q73, .Constant (.str "NoFit") 0 q74, .Constant (.str "TooMany") 0 q75, .Constant (.str "NothingToUndo") 0 q76] q77) q79) q81,
      .If (.BoolOp .Or [.Compare (.Call (.Name "sum" q88) [.ListComp (.Call (.Name "int" q82) [.Name "flag" q83] [] q84) [⟨.Name "flag" q85, .Name "flags" q86, [], 0⟩] sc1 q87] [] q89) [.NotEq] [.Constant (.int 1) 0 q90] q91, .UnaryOp .Not (.Call (.Name "isinstance" q92) [.Name "e" q93, .Name "ValueError" q94] [] q95) q96] q97) [.Return (some (.Tuple [.Constant (.str "error") 0 q98, .Constant (.str "other") 0 q99] 0 q100)) q101] [] q102,
      .Return (some (.Tuple [.Constant (.str "error") 0 q105, .Subscript (.Name "kinds" q106) (.Call (.Attribute (.Name "flags" q107) "index" q103) [.Constant (.bool true) 0 q108] [] q104) q109] 0 q110)) q111]) (hln : (q103.endLine == q104.line) = true) : TermOk K mg ca names x st NM4 f cdv := by
  intro c hc prog w base A outer s H p hot hz hf hu
  rw [hb]
  generalize hX : cxH CX0 prog w K mg base NM4 x (defScope st) f cdv A outer s H E0 p = X
  have eK : X.K = K := by rw [← hX]; rfl
  have eM : X.mg = mg := by rw [← hX]; rfl
  have eN : X.N = NM4 := by rw [← hX]; rfl
  have eS : X.env.scope = defScope st := by rw [← hX]; rfl
  have eA : X.A = A.deeper (envOfC x (defScope st) s.heap.objs.size f cdv) := by rw [← hX]; rfl
  have hpn : p ∈ X.pn := by rw [← hX]; exact List.mem_singleton.mpr rfl
  have hotc : HotC X := ⟨p, by rw [← hX]; exact hot, hpn⟩
  have huX : X.A.units + 65 < cLine := by rw [eA]; exact hu
  clear hX
  have hN : X.N.Nodup := by rw [eN]; decide
  have gl : ∀ y ∈ gl3 ++ cls11, Gl X y := fun y hy => by
    unfold Gl Env.kindOf
    rw [eS]
    exact S.gl y hy
  have free : ∀ y ∈ fr4, X.mg y = none := fun y hy => by rw [eM]; exact F.free y hy
  have ve : ∀ (q : Pos), PE X (.Name "e" q) (tVar 0) := fun q => pe_var (by rw [eN]; rfl) (by rw [eS]; exact .inl S.e)
  have vf : ∀ (q : Pos), PE X (.Name "flags" q) (tVar 1) := fun q => pe_var (by rw [eN]; rfl) (by rw [eS]; exact .inl S.flags)
  have vk : ∀ (q : Pos), PE X (.Name "kinds" q) (tVar 2) := fun q => pe_var (by rw [eN]; rfl) (by rw [eS]; exact .inl S.kinds)
  have hisE : CallR X (.builtin "isinstance") (rIsE X.K (ca c) p.1) := isE (oe := p.2) hpn (by rw [eK]; exact F.exc c hc) hz hf
  have isC : ∀ {ρ : List (Option KD)} (d : Str) (a1 a2 a3 a4 : Pos), d ∈ cls11 → (d == ("__debug__" : Str)) = false → ρ[0]? = some (some (.er p.1)) → PE X (.Call (.Name "isinstance" a1) [.Name "e" a2, .Name d a3] [] a4) (tk ρ (.b (d == c))) := fun d a1 a2 a3 a4 hd hdb hr =>
    k_is (c := .ref (ca d)) hisE (by rw [eK]; exact F.kit c hc d hd) (fun u r => r) (gl _ (by decide)) (free _ (by decide)) (ve a2) (pe_glob (gl d (List.mem_append_right _ hd)) (by rw [eM]; exact F.glo d hd) rfl hdb) hr
  have isV : ∀ {ρ : List (Option KD)} (a1 a2 a3 a4 : Pos), ρ[0]? = some (some (.er p.1)) → PE X (.Call (.Name "isinstance" a1) [.Name "e" a2, .Name "ValueError" a3] [] a4) (tk ρ (.b true)) := fun a1 a2 a3 a4 hr =>
    k_is (c := .ty "ValueError") hisE (by rw [eK]; exact F.ve c hc) (fun u r => r) (gl _ (by decide)) (free _ (by decide)) (ve a2) (pe_bltn (gl _ (by decide)) (free _ (by decide)) (by decide +kernel) rfl) hr
  obtain ⟨j, hj1, hj2, hj3⟩ := index_of cls11 c (F.sub c hc)
  have hsum := sum_of cls11 c (by decide) (F.sub c hc)

  have lF : X.env.scope.names.lookup ("flags" : Str) = some .local := by rw [eS]; exact S.flags
  have lK : X.env.scope.names.lookup ("kinds" : Str) = some .local := by rw [eS]; exact S.kinds
  have n1 : X.N[1]? = some ("flags" : Str) := by rw [eN]; rfl
  have n2 : X.N[2]? = some ("kinds" : Str) := by rw [eN]; rfl
  refine k_set (d := .bl ((["InvalidForest", "InvalidInput", "InvalidPart"] : List Str).map (· == c))) hN n1 lF rfl (k_lb (bs := ((["InvalidForest", "InvalidInput", "InvalidPart"] : List Str).map (· == c))) (by simp) (k_cons (isC "InvalidForest" _ _ _ _ (by decide) (by decide) rfl) (k_cons (isC "InvalidInput" _ _ _ _ (by decide) (by decide) rfl) (k_cons (isC "InvalidPart" _ _ _ _ (by decide) (by decide) rfl) k_nil)))) ?_
  refine k_set (d := .bl ((["InvalidForest", "InvalidInput", "InvalidPart", "InvalidTree", "InvalidIndex", "InvalidBox"] : List Str).map (· == c))) hN n1 lF rfl (k_cb (xs := ((["InvalidForest", "InvalidInput", "InvalidPart"] : List Str).map (· == c))) (ys := ((["InvalidTree", "InvalidIndex", "InvalidBox"] : List Str).map (· == c))) (by simp) (k_var rfl (vf _)) (k_lb (bs := ((["InvalidTree", "InvalidIndex", "InvalidBox"] : List Str).map (· == c))) (by simp) (k_cons (isC "InvalidTree" _ _ _ _ (by decide) (by decide) rfl) (k_cons (isC "InvalidIndex" _ _ _ _ (by decide) (by decide) rfl) (k_cons (isC "InvalidBox" _ _ _ _ (by decide) (by decide) rfl) k_nil))))) ?_
  refine k_set (d := .bl ((["InvalidForest", "InvalidInput", "InvalidPart", "InvalidTree", "InvalidIndex", "InvalidBox", "InvalidFlag", "InvalidText", "NoFit"] : List Str).map (· == c))) hN n1 lF rfl (k_cb (xs := ((["InvalidForest", "InvalidInput", "InvalidPart", "InvalidTree", "InvalidIndex", "InvalidBox"] : List Str).map (· == c))) (ys := ((["InvalidFlag", "InvalidText", "NoFit"] : List Str).map (· == c))) (by simp) (k_var rfl (vf _)) (k_lb (bs := ((["InvalidFlag", "InvalidText", "NoFit"] : List Str).map (· == c))) (by simp) (k_cons (isC "InvalidFlag" _ _ _ _ (by decide) (by decide) rfl) (k_cons (isC "InvalidText" _ _ _ _ (by decide) (by decide) rfl) (k_cons (isC "NoFit" _ _ _ _ (by decide) (by decide) rfl) k_nil))))) ?_
  refine k_set (d := .bl ((["InvalidForest", "InvalidInput", "InvalidPart", "InvalidTree", "InvalidIndex", "InvalidBox", "InvalidFlag", "InvalidText", "NoFit", "TooMany", "NothingToUndo"] : List Str).map (· == c))) hN n1 lF rfl (k_cb (xs := ((["InvalidForest", "InvalidInput", "InvalidPart", "InvalidTree", "InvalidIndex", "InvalidBox", "InvalidFlag", "InvalidText", "NoFit"] : List Str).map (· == c))) (ys := ((["TooMany", "NothingToUndo"] : List Str).map (· == c))) (by simp) (k_var rfl (vf _)) (k_lb (bs := ((["TooMany", "NothingToUndo"] : List Str).map (· == c))) (by simp) (k_cons (isC "TooMany" _ _ _ _ (by decide) (by decide) rfl) (k_cons (isC "NothingToUndo" _ _ _ _ (by decide) (by decide) rfl) k_nil)))) ?_
  refine k_set (d := .sl ["InvalidForest", "InvalidInput", "InvalidPart", "InvalidTree", "InvalidIndex", "InvalidBox"]) hN n2 lK rfl (k_ls (bs := ["InvalidForest", "InvalidInput", "InvalidPart", "InvalidTree", "InvalidIndex", "InvalidBox"]) (by decide) (k_cons k_str (k_cons k_str (k_cons k_str (k_cons k_str (k_cons k_str (k_cons k_str k_nil))))))) ?_
  refine k_set (d := .sl ["InvalidForest", "InvalidInput", "InvalidPart", "InvalidTree", "InvalidIndex", "InvalidBox", "InvalidFlag", "InvalidText", "NoFit", "TooMany", "NothingToUndo"]) hN n2 lK rfl (k_cs (xs := ["InvalidForest", "InvalidInput", "InvalidPart", "InvalidTree", "InvalidIndex", "InvalidBox"]) (ys := ["InvalidFlag", "InvalidText", "NoFit", "TooMany", "NothingToUndo"]) (by decide) (k_var rfl (vk _)) (k_ls (bs := ["InvalidFlag", "InvalidText", "NoFit", "TooMany", "NothingToUndo"]) (by decide) (k_cons k_str (k_cons k_str (k_cons k_str (k_cons k_str (k_cons k_str k_nil))))))) ?_
  have hblk : BlkOk X.N X.env.scope sc1 [("flag", 3)] := by rw [eN, eS]; exact blkOk_by S.blk
  refine k_skip (t := tz [] "error" "other") ?_ (k_ret k_str k_str rfl rfl) ?_
  · have hs : ∀ a1 a2 a3 a4 a5 a6 a7 a8 : Pos, PE X (.Call (.Name "sum" a7) [.ListComp (.Call (.Name "int" a1) [.Name "flag" a2] [] a3) [⟨.Name "flag" a4, .Name "flags" a5, [], 0⟩] sc1 a6] [] a8) (tk (some (.er p.1) :: some (.bl (cls11.map (· == c))) :: some (.sl cls11) :: [none]) (.i ((cls11.map (· == c)).map bit).sum)) := fun a1 a2 a3 a4 a5 a6 a7 a8 => k_sum (X := X) (ρ := (some (.er p.1) :: some (.bl (cls11.map (· == c))) :: some (.sl cls11) :: [none])) (bs := cls11.map (· == c)) (by simp [cls11]) hotc (gl "sum" (by decide)) (free "sum" (by decide))
      (lcHot hotc hN (k_var (d := .bl (cls11.map (· == c))) rfl (vf _)) hblk (by rw [eS]; exact S.flag) (fun s' H' C cl fp => k_bit (N := 0) (by
        show (relS sc1 X.env.scope).names.lookup ("int" : Str) = some .globalImplicit
        rw [eS]; exact S.int) (free "int" (by decide)) (pe_var (by show X.N[3]? = _; rw [eN]; rfl) (by
        show Vis (relS sc1 X.env.scope) "flag"
        rw [eS]; exact .inl S.flag))) (folded_plain rfl)) rfl
    rw [hsum] at hs
    exact k_or (k_ne rfl (hs _ _ _ _ _ _ _ _) k_int) (k_nt (isV _ _ _ _ rfl) (by intro _; rfl))
  · refine k_ret k_str (k_at (xs := cls11) (j := j) hj1 rfl (k_var rfl (vk _)) (k_index huX hj2 hj3 ?_ rfl hln rfl (k_var rfl (vf _)) k_bool)) rfl rfl
    have : ∀ bs : List Bool, PyData.canLayAll0 (bs.map PyData.bool) = true ∧ PyData.depthAll (bs.map PyData.bool) ≤ 1 := fun bs => by
      induction bs with
      | nil => exact ⟨rfl, by simp [PyData.depthAll]⟩
      | cons b bs ih =>
        refine ⟨by simp [PyData.canLayAll0, PyData.canLay0, ih.1], ?_⟩
        have := ih.2
        simp only [List.map_cons, PyData.depthAll, PyData.depth]
        omega
    have h2 := this (cls11.map (· == c))
    have h3 := h2.2
    have h4 : SeqAt.shaped (.list ((cls11.map (· == c)).map PyData.bool)) = (PyData.canLay0 (.list ((cls11.map (· == c)).map PyData.bool)) && decide (PyData.depth (.list ((cls11.map (· == c)).map PyData.bool)) ≤ 64)) := rfl
    rw [h4, PyData.canLay0, PyData.depth, h2.1, Bool.true_and]
    exact decide_eq_true (by omega)
end VW
end
section
set_option maxHeartbeats 2000000
/-! What the head is asked about the exceptions' classes, as a Bool; the end of a law. -/
namespace VW
open PySem PySem.Spec PyProof.Rows L2 LamX
def excCB (K : PySem.W.Frag) (D : Addr) : Bool :=
  He.eqO (PySem.W.findIn K (.ref D) "__getattribute__") (some (some (.builtin "BaseException.__getattribute__"))) &&
  (He.eqO (PySem.W.findIn K (.ref D) "__getattr__") (some none) &&
  (decide (PySem.W.subIn K (.ref D) (.type "BaseException") = some true) &&
  (PySem.W.hasDictIn K D &&
  (He.eqO (PySem.W.findIn K (.ref D) "__class__") (some (some (.builtin "object.__class__"))) &&
  (He.eqO (PySem.W.specialIn K (.builtin "object.__class__") "__get__") (some (some (.builtin "getset_descriptor.__get__"))) &&
  (decide (PySem.W.takesIn K (.builtin "object.__class__") = some true) &&
  decide (PySem.W.mroIn K D (.type "object") = some true)))))))
theorem excC_of {K : PySem.W.Frag} {D : Addr} (h : excCB K D = true) : ExcC K D := by
  unfold excCB at h
  simp only [Bool.and_eq_true, decide_eq_true_eq] at h
  obtain ⟨h1, h2, h3, h4, h5, h6, h7, h8⟩ := h
  exact ⟨He.eqO_ok h1, He.eqO_ok h2, h3, h4, He.eqO_ok h5, He.eqO_ok h6, h7, h8⟩
def termB (names : List Str) (K : PySem.W.Frag) : Bool :=
  names.all (fun c => excCB K (He.ga K c) && (cls11.all (fun d => decide (PySem.W.kitOne K (.ref (He.ga K c)) (.ref (He.ga K d)) = some (d == c))) && decide (PySem.W.kitOne K (.ref (He.ga K c)) (.type "ValueError") = some true))) &&
  (cls11.all (fun d => (He.Fa.glo d).ok K) && fr4.all (fun x => (He.Fa.free x).ok K))
theorem termF_of {names : List Str} {K : PySem.W.Frag} {h : Heap} {mg : Str → Option Value} (KX : K.In h) (hns : h.Ns mainGlobals mg) (hb : termB names K = true) (hs : ∀ c ∈ names, c ∈ cls11) : TermF K mg (He.ga K) names := by
  unfold termB at hb
  simp only [Bool.and_eq_true, List.all_eq_true, decide_eq_true_eq] at hb
  obtain ⟨h1, h2, h3⟩ := hb
  exact ⟨fun c hc => excC_of (h1 c hc).1, fun c hc d hd => (h1 c hc).2.1 d hd, fun c hc => (h1 c hc).2.2, fun d hd => He.glo_ok KX hns (h2 d hd), hs, fun x hx => He.free_ok KX hns (h3 x hx)⟩
theorem noCX {P : Program} {w : World} {H : Hp} {s s' : Shared} {e : Value} (z : L2N.CX P w [] H s (fun _ _ _ => False) e s') : False := by
  obtain ⟨_, _, _, _, _, _, _, _, _, _, _, _, f⟩ := z
  exact f
def exB (names : List Str) (K : PySem.W.Frag) : Bool := noListB K && termB names K
end VW
end
section
/-! The interpreter, opened by simp: plain equations. -/
namespace VW
open PySem
abbrev Tb := List (Str × CDef)
theorem run_s {T : Tb} {f : Str} {d : CDef} (h : T.lookup f = some d) (k : Nat) (us : List U) (M : Mem) : run T (k + 1) f us M = runDef (run T k) d us M := by
  simp only [run, h]
abbrev fr (a b : Int) : D := .tuple [.int a, .int b]
/-- cells name cells below -/
def Cl (M : Mem) : Prop := M.all (Cell.below M.length) = true
/-- a branch -/
def brU {α : Type} (x : U) (a b z : α) : α := match x with
  | .p (.bool true) => a
  | .p (.bool false) => b
  | _ => z
@[simp] theorem brU_b {α : Type} (b : Bool) (x y z : α) : brU (.p (.bool b)) x y z = if b = true then x else y := by cases b <;> rfl
@[simp] theorem bind_okE {α β : Type} (a : α) (M : Mem) (f : α → Mem → R β) : R.bind (.ok a M) f = f a M := by rfl
@[simp] theorem bind_excE {α β : Type} (c : Str) (M : Mem) (f : α → Mem → R β) : R.bind (.exc c M) f = .exc c M := by rfl
@[simp] theorem bind_badE {α β : Type} (f : α → Mem → R β) : R.bind (.bad) f = .bad := by rfl
@[simp] theorem bind_ite {α β : Type} (c : Prop) [Decidable c] (x y : R α) (f : α → Mem → R β) : R.bind (if c then x else y) f = if c then R.bind x f else R.bind y f := by split <;> rfl
@[simp] theorem calm_okE {α : Type} (a : α) (M : Mem) : R.calm (.ok a M) = .ok a M := by rfl
@[simp] theorem calm_ite {α : Type} (c : Prop) [Decidable c] (x y : R α) : R.calm (if c then x else y) = if c then R.calm x else R.calm y := by split <;> rfl
@[simp] theorem of_someE {α : Type} (a : α) (M : Mem) : R.of (some a) M = .ok a M := by rfl
@[simp] theorem of_noneE {α : Type} (M : Mem) : R.of (none : Option α) M = .bad := by rfl
@[simp] theorem thn_okE {α : Type} (a : α) (M : Mem) (f : α → Mem → SR) : R.thn (.ok a M) f = f a M := by rfl
@[simp] theorem thn_excE {α : Type} (c : Str) (M : Mem) (f : α → Mem → SR) : R.thn (.exc c M) f = .exc c M := by rfl
@[simp] theorem thn_ite {α : Type} (c : Prop) [Decidable c] (x y : R α) (f : α → Mem → SR) : R.thn (if c then x else y) f = if c then R.thn x f else R.thn y f := by split <;> rfl
@[simp] theorem sbind_next (ρ : Env) (M : Mem) (f : Env → Mem → SR) : SR.bind (.next ρ M) f = f ρ M := by rfl
@[simp] theorem sbind_ret (u : U) (M : Mem) (f : Env → Mem → SR) : SR.bind (.ret u M) f = .ret u M := by rfl
@[simp] theorem sbind_exc (c : Str) (M : Mem) (f : Env → Mem → SR) : SR.bind (.exc c M) f = .exc c M := by rfl
@[simp] theorem sbind_bad (f : Env → Mem → SR) : SR.bind (.bad) f = .bad := by rfl
@[simp] theorem sbind_ite (c : Prop) [Decidable c] (x y : SR) (f : Env → Mem → SR) : SR.bind (if c then x else y) f = if c then SR.bind x f else SR.bind y f := by split <;> rfl
theorem sbind_assoc (x : SR) (f g : Env → Mem → SR) : SR.bind (SR.bind x f) g = SR.bind x (fun ρ M => SR.bind (f ρ M) g) := by cases x <;> rfl
@[simp] theorem sof_some (ρ : Env) (M : Mem) : SR.of (some ρ) M = .next ρ M := by rfl
section
variable {Φ : Fn} {ρ : Env} {M : Mem}
/-- a name -/
def look (ρ : Env) (i : Nat) (M : Mem) : R U := match ρ[i]? with
  | some (some u) => .ok u M
  | _ => .bad
@[simp] theorem look_z (u : U) (ρ : Env) (M : Mem) : look (some u :: ρ) 0 M = .ok u M := by rfl
@[simp] theorem look_s (o : Option U) (ρ : Env) (i : Nat) (M : Mem) : look (o :: ρ) (i + 1) M = look ρ i M := by simp [look]
theorem look_get {i : Nat} {u : U} (h : ρ[i]? = some (some u)) : look ρ i M = .ok u M := by simp [look, h]
@[simp] theorem e_var (i : Nat) : evE Φ (.var i) ρ M = look ρ i M := by simp only [evE, look] <;> rfl
@[simp] theorem e_lit (d : D) : evE Φ (.lit d) ρ M = .ok (.p d) M := by simp only [evE]
@[simp] theorem e_glo (x : Str) (d : D) : evE Φ (.glo x d) ρ M = .ok (.p d) M := by simp only [evE]
def mkT (us : List U) (M : Mem) : R U := match pures us with
  | some ds => if ds.length ≤ sizeLine then .ok (.p (.tuple ds)) M else .bad
  | none => .bad
@[simp] theorem e_tup (es : CEs) : evE Φ (.tup es) ρ M = (evL Φ es ρ M).bind mkT := by simp only [evE] <;> rfl
@[simp] theorem e_lst (es : CEs) : evE Φ (.lst es) ρ M = (evL Φ es ρ M).bind fun us M => if us.length ≤ sizeLine then .of (mkL us) M else .bad := by simp only [evE]
def mkR (us : List U) (M : Mem) : R U := match pures us with
  | some ds => if ds.length ≤ sizeLine then .ok (.ref M.length) (M ++ [.pl ds]) else .bad
  | none => .bad
@[simp] theorem e_lstR (es : CEs) : evE Φ (.lstR es) ρ M = (evL Φ es ρ M).bind mkR := by simp only [evE] <;> rfl
@[simp] theorem e_dctR : evE Φ .dctR ρ M = .ok (.ref M.length) (M ++ [.dct []]) := by simp only [evE]
@[simp] theorem e_bin (o : BO) (a b : CE) : evE Φ (.bin o a b) ρ M = (evE Φ a ρ M).bind fun x M => (evE Φ b ρ M).bind fun y M => .of (lift (op2 M (bop o) x y)) M := by simp only [evE]
def ngU (x : U) (M : Mem) : R U := match x with
  | .p (.int i) => .ok (.p (.int (-i))) M
  | _ => .bad
@[simp] theorem ngU_i (i : Int) (M : Mem) : ngU (.p (.int i)) M = .ok (.p (.int (-i))) M := by rfl
@[simp] theorem e_neg (a : CE) : evE Φ (.neg a) ρ M = (evE Φ a ρ M).bind ngU := by simp only [evE] <;> rfl
@[simp] theorem e_cmp (o : CO) (a b : CE) : evE Φ (.cmp o a b) ρ M = (evE Φ a ρ M).bind fun x M => (evE Φ b ρ M).bind fun y M => .of (liftB (op2r M (cop o) x y)) M := by simp only [evE]
def brO {α : Type} (o : Option Bool) (a b z : α) : α := match o with
  | some true => a
  | some false => b
  | none => z
@[simp] theorem brO_s {α : Type} (b : Bool) (x y z : α) : brO (some b) x y z = if b = true then x else y := by cases b <;> rfl
@[simp] theorem e_chain (o p : CO) (a b c : CE) : evE Φ (.chain o p a b c) ρ M = (evE Φ a ρ M).bind fun x M => (evE Φ b ρ M).bind fun y M => brO (op2r M (cop o) x y) ((evE Φ c ρ M).bind fun z M => .of (liftB (op2r M (cop p) y z)) M) (.ok (.p (.bool false)) M) .bad := by
  simp only [evE] <;> congr
@[simp] theorem e_boo (k : Bool) (es : CEs) : evE Φ (.boo k es) ρ M = evB Φ k es ρ M := by simp only [evE]
@[simp] theorem b_nil (k : Bool) : evB Φ k .nil ρ M = .ok (.p (.bool k)) M := by simp only [evB]
@[simp] theorem b_and (a : CE) (r : CEs) : evB Φ true (.cons a r) ρ M = (evE Φ a ρ M).bind fun x M => brU x (evB Φ true r ρ M) (.ok (.p (.bool false)) M) .bad := by
  simp only [evB]
  congr; funext x M1
  unfold brU
  split
  · rename_i b; cases b <;> simp
  · split <;> simp_all
@[simp] theorem b_or (a : CE) (r : CEs) : evB Φ false (.cons a r) ρ M = (evE Φ a ρ M).bind fun x M => brU x (.ok (.p (.bool true)) M) (evB Φ false r ρ M) .bad := by
  simp only [evB]
  congr; funext x M1
  unfold brU
  split
  · rename_i b; cases b <;> simp
  · split <;> simp_all
def ntU (x : U) (M : Mem) : R U := match x with
  | .p (.bool b) => .ok (.p (.bool (!b))) M
  | _ => .bad
@[simp] theorem ntU_b (b : Bool) (M : Mem) : ntU (.p (.bool b)) M = .ok (.p (.bool (!b))) M := by rfl
@[simp] theorem e_nt (a : CE) : evE Φ (.nt a) ρ M = (evE Φ a ρ M).bind ntU := by simp only [evE] <;> rfl
@[simp] theorem e_ite (c a b : CE) : evE Φ (.ite c a b) ρ M = (evE Φ c ρ M).bind fun x M => brU x (evE Φ a ρ M) (evE Φ b ρ M) .bad := by
  simp only [evE] <;> congr
@[simp] theorem e_ix (a i : CE) : evE Φ (.ix a i) ρ M = (evE Φ a ρ M).bind fun x M => (evE Φ i ρ M).bind fun y M => .of (ixU M x y) M := by simp only [evE]
def slU (x : U) (l h : List U) (M : Mem) : R U := match (pures l).bind optI, (pures h).bind optI, val M x with
  | some l, some h, some d => .of (lift (slD d l h)) M
  | _, _, _ => .bad
@[simp] theorem e_call (f : Str) (es : CEs) : evE Φ (.call f es) ρ M = (evL Φ es ρ M).bind fun us M => Φ f us M := by simp only [evE]
@[simp] theorem e_told (t g : Str) (es : CEs) : evE Φ (.told t g es) ρ M = (evL Φ es ρ M).calm.bind fun us M => Φ t us M := by simp only [evE]
@[simp] theorem e_prim (p : Pr) (es : CEs) : evE Φ (.prim p es) ρ M = (evL Φ es ρ M).bind fun us M => .of (lift ((vals M us).bind (prim p))) M := by simp only [evE]
@[simp] theorem el_nil : evL Φ .nil ρ M = .ok [] M := by simp only [evL]
@[simp] theorem el_cons (a : CE) (r : CEs) : evL Φ (.cons a r) ρ M = (evE Φ a ρ M).bind fun x M => (evL Φ r ρ M).bind fun xs M => .ok (x :: xs) M := by simp only [evL]
/-- statements -/
@[simp] theorem s_asg (i : Nat) (e : CE) : exS Φ (.asg (.nm i) e) ρ M = (evE Φ e ρ M).thn fun x M => .next (ρ.set i (some x)) M := by simp only [exS, put, sof_some]
@[simp] theorem s_asgT (is : List Nat) (e : CE) : exS Φ (.asg (.tp is) e) ρ M = (evE Φ e ρ M).thn fun x M => .of (put (.tp is) x ρ) M := by simp only [exS]
@[simp] theorem s_par (i j : Nat) (a b : CE) : exS Φ (.par i j a b) ρ M = (evE Φ a ρ M).thn fun x M => (evE Φ b ρ M).thn fun y M => .next ((ρ.set i (some x)).set j (some y)) M := by simp only [exS]
@[simp] theorem s_par3 (i j l : Nat) (a b c : CE) : exS Φ (.par3 i j l a b c) ρ M = (evE Φ a ρ M).thn fun x M => (evE Φ b ρ M).thn fun y M => (evE Φ c ρ M).thn fun z M => .next (((ρ.set i (some x)).set j (some y)).set l (some z)) M := by simp only [exS]
def newU (i : Nat) (ρ : Env) (x : U) (M : Mem) : SR := match x with
  | .p (.list xs) => .next (ρ.set i (some (.ref M.length))) (M ++ [.pl xs])
  | _ => .bad
@[simp] theorem newU_l (i : Nat) (ρ : Env) (xs : List D) (M : Mem) : newU i ρ (.p (.list xs)) M = .next (ρ.set i (some (.ref M.length))) (M ++ [.pl xs]) := by rfl
@[simp] theorem s_new (i : Nat) (e : CE) : exS Φ (.new i e) ρ M = (evE Φ e ρ M).thn (newU i ρ) := by simp only [exS] <;> rfl
@[simp] theorem s_exp (e : CE) : exS Φ (.exp e) ρ M = (evE Φ e ρ M).thn fun _ M => .next ρ M := by simp only [exS]
@[simp] theorem s_ret (e : CE) : exS Φ (.ret e) ρ M = (evE Φ e ρ M).thn fun x M => .ret x M := by simp only [exS]
@[simp] theorem s_iff (c : CE) (a b : CSs) : exS Φ (.iff c a b) ρ M = (evE Φ c ρ M).thn fun x M => brU x (exL Φ a ρ M) (exL Φ b ρ M) .bad := by simp only [exS] <;> congr
@[simp] theorem s_rai (c : Str) : exS Φ (.rai c) ρ M = .exc c M := by simp only [exS]
@[simp] theorem s_whl (c : CE) (b : CSs) : exS Φ (.whl c b) ρ M = whileF (evE Φ c) (exL Φ b) 1000000 ρ M := by simp only [exS]
@[simp] theorem s_for (g : Tg) (it : IT) (src : CEs) (b : CSs) : exS Φ (.for_ g it src b) ρ M = (evL Φ src ρ M).thn fun us M => match walk M it us with
    | some xs => forF (fun M1 => stands M M1 us) g (exL Φ b) xs ρ M
    | none => .bad := by simp only [exS] <;> congr
@[simp] theorem x_nil : exL Φ .nil ρ M = .next ρ M := by simp only [exL]
@[simp] theorem x_cons (s : CS) (r : CSs) : exL Φ (.cons s r) ρ M = (exS Φ s ρ M).bind fun ρ M => exL Φ r ρ M := by simp only [exL]
theorem while_s (c : Env → Mem → R U) (b : Env → Mem → SR) (n : Nat) : whileF c b (n + 1) ρ M = (c ρ M).thn fun x M => brU x ((b ρ M).bind fun ρ M => whileF c b n ρ M) (.next ρ M) .bad := by
  simp only [whileF] <;> congr
end
@[simp] theorem pures_nil : pures [] = some [] := by rfl
@[simp] theorem pures_cons (d : D) (us : List U) : pures (.p d :: us) = (pures us).map (d :: ·) := by rfl
@[simp] theorem mkT_p (us : List U) (ds : List D) (M : Mem) (h : pures us = some ds) (hl : ds.length ≤ sizeLine) : mkT us M = .ok (.p (.tuple ds)) M := by simp [mkT, h, hl]
theorem sz : sizeLine = 16777216 := sizeLine_eq
@[simp] theorem val_p (M : Mem) (d : D) : val M (.p d) = some d := by rfl
@[simp] theorem rdv_p (M : Mem) (d : D) : rdv M (.p d) = some d := by rfl
@[simp] theorem names_p (M : Mem) (d : D) : names M (.p d) = none := by rfl
@[simp] theorem vals_nil (M : Mem) : vals M [] = some [] := by rfl
@[simp] theorem vals_p (M : Mem) (d : D) (us : List U) : vals M (.p d :: us) = (vals M us).map (d :: ·) := by
  simp only [vals, rdv_p]; cases vals M us <;> rfl
@[simp] theorem lift_s (d : D) : lift (some d) = some (.p d) := by rfl
@[simp] theorem liftB_s (b : Bool) : liftB (some b) = some (.p (.bool b)) := by rfl
@[simp] theorem op2_p {α : Type} (M : Mem) (f : D → D → Option α) (d e : D) : op2 M f (.p d) (.p e) = f d e := by rfl
@[simp] theorem op2r_p {α : Type} (M : Mem) (f : D → D → Option α) (d e : D) : op2r M f (.p d) (.p e) = f d e := by rfl
@[simp] theorem ixU_p (M : Mem) (d e : D) : ixU M (.p d) (.p e) = (ixD d e).map .p := by rfl
@[simp] theorem ixD_t (xs : List D) (i : Int) : ixD (.tuple xs) (.int i) = L2.atI xs i := by rfl
@[simp] theorem ixD_l (xs : List D) (i : Int) : ixD (.list xs) (.int i) = L2.atI xs i := by rfl
theorem atI_nat {α : Type} (xs : List α) (i : Nat) (h : i < xs.length) : L2.atI xs (i : Int) = xs[i]? := by
  unfold L2.atI L2.ixN
  simp [h]
@[simp] theorem atI_0 {α : Type} (x : α) (xs : List α) : L2.atI (x :: xs) 0 = some x := by simp [L2.atI, L2.ixN]
theorem atI_s {α : Type} (x : α) (xs : List α) (n : Nat) : L2.atI (x :: xs) ((n + 1 : Nat) : Int) = L2.atI xs (n : Int) := by
  unfold L2.atI L2.ixN
  by_cases h : n < xs.length
  · have h1 : ((n : Int) < (xs.length : Int)) := by omega
    have h2 : (((n + 1 : Nat) : Int) < ((x :: xs).length : Int)) := by simp; omega
    have h3 : (0 : Int) ≤ (n : Int) := by omega
    have h4 : (0 : Int) ≤ ((n + 1 : Nat) : Int) := by omega
    simp only [if_pos h3, if_pos h4, if_pos h1, if_pos h2]; rfl
  · have h1 : ¬ ((n : Int) < (xs.length : Int)) := by omega
    have h2 : ¬ (((n + 1 : Nat) : Int) < ((x :: xs).length : Int)) := by simp; omega
    have h3 : (0 : Int) ≤ (n : Int) := by omega
    have h4 : (0 : Int) ≤ ((n + 1 : Nat) : Int) := by omega
    simp only [if_pos h3, if_pos h4, if_neg h1, if_neg h2]; rfl
@[simp] theorem atI_1 {α : Type} (x y : α) (xs : List α) : L2.atI (x :: y :: xs) 1 = some y := by rw [show (1 : Int) = ((0 + 1 : Nat) : Int) by rfl, atI_s]; simp
@[simp] theorem atI_2 {α : Type} (x y z : α) (xs : List α) : L2.atI (x :: y :: z :: xs) 2 = some z := by rw [show (2 : Int) = ((1 + 1 : Nat) : Int) by rfl, atI_s]; simp
@[simp] theorem atI_3 {α : Type} (x y z w : α) (xs : List α) : L2.atI (x :: y :: z :: w :: xs) 3 = some w := by rw [show (3 : Int) = ((2 + 1 : Nat) : Int) by rfl, atI_s]; simp
@[simp] theorem atI_4 {α : Type} (x y z w v : α) (xs : List α) : L2.atI (x :: y :: z :: w :: v :: xs) 4 = some v := by rw [show (4 : Int) = ((3 + 1 : Nat) : Int) by rfl, atI_s]; simp
@[simp] theorem bop_add (a b : Int) : bop .add (.int a) (.int b) = some (.int (a + b)) := by rfl
@[simp] theorem bop_sub (a b : Int) : bop .sub (.int a) (.int b) = some (.int (a - b)) := by rfl
@[simp] theorem bop_mul (a b : Int) : bop .mul (.int a) (.int b) = if mulOk a b = true then some (.int (a * b)) else none := by rfl
@[simp] theorem bop_fdiv (a b : Int) : bop .fdiv (.int a) (.int b) = if 0 < b ∧ b.natAbs.log2 < 9000 then some (.int (a / b)) else none := by rfl
@[simp] theorem bop_mod (a b : Int) : bop .mod (.int a) (.int b) = if 0 < b then some (.int (a % b)) else none := by rfl
@[simp] theorem bop_pow (a b : Int) : bop .pow (.int a) (.int b) = if 0 ≤ b ∧ b ≤ 1000 ∧ a.natAbs < 2 ^ 64 then some (.int (a ^ b.toNat)) else none := by rfl
@[simp] theorem bop_addS (x y : Str) : bop .add (.str x) (.str y) = if x.length + y.length ≤ sizeLine then some (.str (x ++ y)) else none := by rfl
@[simp] theorem bop_addT (x y : List D) : bop .add (.tuple x) (.tuple y) = if x.length + y.length ≤ sizeLine then some (.tuple (x ++ y)) else none := by rfl
@[simp] theorem bop_addL (x y : List D) : bop .add (.list x) (.list y) = if x.length + y.length ≤ sizeLine then some (.list (x ++ y)) else none := by rfl
@[simp] theorem cop_eq (a b : D) : cop .eq a b = eqD a b := by cases a <;> cases b <;> rfl
@[simp] theorem cop_ne (a b : D) : cop .ne a b = (eqD a b).map (!·) := by cases a <;> cases b <;> rfl
@[simp] theorem cop_lt (a b : Int) : cop .lt (.int a) (.int b) = some (decide (a < b)) := by rfl
@[simp] theorem cop_le (a b : Int) : cop .le (.int a) (.int b) = some (decide (a ≤ b)) := by rfl
@[simp] theorem cop_gt (a b : Int) : cop .gt (.int a) (.int b) = some (decide (b < a)) := by rfl
@[simp] theorem cop_ge (a b : Int) : cop .ge (.int a) (.int b) = some (decide (b ≤ a)) := by rfl
@[simp] theorem cop_in (a b : D) : cop .isin a b = inD a b := by cases a <;> cases b <;> rfl
@[simp] theorem cop_notin (a b : D) : cop .notin a b = (inD a b).map (!·) := by cases a <;> cases b <;> rfl
@[simp] theorem cop_isN (a : D) : cop .isN a .none = some (isNone a) := by cases a <;> rfl
@[simp] theorem cop_notN (a : D) : cop .notN a .none = some (!isNone a) := by cases a <;> rfl
@[simp] theorem p_len (d : D) : prim .len [d] = (lenD d).map .int := by rfl
@[simp] theorem p_abs (i : Int) : prim .abs [.int i] = some (.int (if i < 0 then -i else i)) := by rfl
@[simp] theorem p_max2 (i j : Int) : prim .max [.int i, .int j] = some (.int (if j > i then j else i)) := by rfl
@[simp] theorem p_min2 (i j : Int) : prim .min [.int i, .int j] = some (.int (if j < i then j else i)) := by rfl
@[simp] theorem p_maxT (ds : List D) : prim .max [.tuple ds] = (intsD ds).bind fun ns => (maxI ns).map .int := by rfl
@[simp] theorem p_maxL (ds : List D) : prim .max [.list ds] = (intsD ds).bind fun ns => (maxI ns).map .int := by rfl
@[simp] theorem p_minT (ds : List D) : prim .min [.tuple ds] = (intsD ds).bind fun ns => (minI ns).map .int := by rfl
@[simp] theorem p_minL (ds : List D) : prim .min [.list ds] = (intsD ds).bind fun ns => (minI ns).map .int := by rfl
@[simp] theorem p_sum (ds : List D) : prim .sum [.list ds] = (intsD ds).map fun ns => .int ns.sum := by rfl
@[simp] theorem p_all (ds : List D) : prim .all [.list ds] = (boolsD ds).map fun bs => .bool (bs.all id) := by rfl
@[simp] theorem p_any (ds : List D) : prim .any [.list ds] = (boolsD ds).map fun bs => .bool (bs.any id) := by rfl
@[simp] theorem p_sorted (d : D) : prim .sorted [d] = ((seqD d).bind intsD).bind fun ns => if ns.length < 64 then some (.list ((sortI ns).map .int)) else none := by rfl
@[simp] theorem p_sortedSet (d : D) : prim .sortedSet [d] = ((seqD d).bind intsD).bind fun ns => if ns.length < 64 then some (.list ((sortI (dedI ns)).map .int)) else none := by rfl
@[simp] theorem p_tuple (d : D) : prim .tuple [d] = (seqD d).map .tuple := by rfl
@[simp] theorem p_list (d : D) : prim .list [d] = (seqD d).map .list := by rfl
@[simp] theorem p_int (i : Int) : prim .int [.int i] = some (.int i) := by rfl
@[simp] theorem p_intB (b : Bool) : prim .int [.bool b] = some (.int (if b then 1 else 0)) := by rfl
@[simp] theorem p_isInt (d : D) : prim .isInt [d] = some (.bool (isIntD d)) := by rfl
@[simp] theorem p_isBool (d : D) : prim .isBool [d] = some (.bool (isBoolD d)) := by rfl
@[simp] theorem p_isStr (d : D) : prim .isStr [d] = some (.bool (isStrD d)) := by rfl
@[simp] theorem p_isTuple (d : D) : prim .isTuple [d] = some (.bool (isTupD d)) := by rfl
@[simp] theorem seqD_t (ds : List D) : seqD (.tuple ds) = some ds := by rfl
@[simp] theorem seqD_l (ds : List D) : seqD (.list ds) = some ds := by rfl
@[simp] theorem lenD_t (ds : List D) : lenD (.tuple ds) = some (ds.length : Int) := by rfl
@[simp] theorem lenD_l (ds : List D) : lenD (.list ds) = some (ds.length : Int) := by rfl
@[simp] theorem intsD_map (ns : List Int) : intsD (ns.map .int) = some ns := by induction ns <;> simp_all [intsD]
@[simp] theorem boolsD_map (ns : List Bool) : boolsD (ns.map .bool) = some ns := by induction ns <;> simp_all [boolsD]
@[simp] theorem strsD_map (ns : List Str) : strsD (ns.map .str) = some ns := by induction ns <;> simp_all [strsD]
@[simp] theorem e_met (Φ : Fn) (ρ : Env) (M : Mem) (m : Mt) (o : CE) (es : CEs) : evE Φ (.met m o es) ρ M = (evE Φ o ρ M).bind fun x M => if recvU M m x = true then (evL Φ es ρ M).bind fun us M => (match val M x, vals M us with
    | some d, some ds => .of (lift (meth m d ds)) M
    | _, _ => .bad) else .bad := by
  simp only [evE] <;> congr
@[simp] theorem e_sl (Φ : Fn) (ρ : Env) (M : Mem) (a : CE) (lo hi : CEs) : evE Φ (.sl a lo hi) ρ M = (evE Φ a ρ M).bind fun x M => (evL Φ lo ρ M).bind fun l M => match (pures l).bind optI with
    | some l => (evL Φ hi ρ M).bind fun h M => match (pures h).bind optI with
      | some h => match val M x with
        | some d => .of (lift (slD d l h)) M
        | none => .bad
      | none => .bad
    | none => .bad := by
  simp only [evE] <;> congr
/-! == of flat data -/
@[simp] theorem eqD_ii (a b : Int) : eqD (.int a) (.int b) = some (decide (a = b)) := by
  have : PyData.eqv (.int a) (.int b) = decide (a = b) := by unfold PyData.eqv; by_cases h : a = b <;> simp [h]
  simp only [eqD, SeqAt.shaped, PyData.canLay0, PyData.depth, this]; rfl
theorem eqv_ints : ∀ a b : List Int, PyData.eqvAll (a.map .int) (b.map .int) = decide (a = b)
  | [], [] => by simp [PyData.eqvAll]
  | [], _ :: _ => by simp [PyData.eqvAll]
  | _ :: _, [] => by simp [PyData.eqvAll]
  | x :: a, y :: b => by
    have : PyData.eqv (.int x) (.int y) = decide (x = y) := by unfold PyData.eqv; by_cases h : x = y <;> simp [h]
    simp [PyData.eqvAll, this, eqv_ints a b]
theorem lay_ints (a : List Int) : PyData.canLayAll0 (a.map .int) = true := by
  induction a with
  | nil => rfl
  | cons x a ih => simp [PyData.canLayAll0, PyData.canLay0, ih]
theorem dep_ints (a : List Int) : PyData.depthAll (a.map .int) ≤ 0 := by
  induction a with
  | nil => simp [PyData.depthAll]
  | cons x a ih =>
    simp only [List.map_cons, PyData.depthAll, PyData.depth]
    omega
theorem shp_ll (a : List Int) : SeqAt.shaped (.list (a.map .int)) = true := by
  have := dep_ints a
  simp only [SeqAt.shaped, PyData.canLay0, PyData.depth, lay_ints]
  simp; omega
theorem shp_tt (a : List Int) : SeqAt.shaped (.tuple (a.map .int)) = true := by
  have := dep_ints a
  simp only [SeqAt.shaped, PyData.canLay0, PyData.depth, lay_ints]
  simp; omega
theorem eqD_ll (a b : List Int) : eqD (.list (a.map .int)) (.list (b.map .int)) = some (decide (a = b)) := by
  simp only [eqD, shp_ll, Bool.and_self, if_true, PyData.eqv, eqv_ints]
theorem eqD_tt (a b : List Int) : eqD (.tuple (a.map .int)) (.tuple (b.map .int)) = some (decide (a = b)) := by
  simp only [eqD, shp_tt, Bool.and_self, if_true, PyData.eqv, eqv_ints]
/-- a text without strange signs -/
def okS (x : Str) : Bool := SeqAt.shaped (.str x)
theorem eqD_ss {x y : Str} (hx : okS x = true) (hy : okS y = true) : eqD (.str x) (.str y) = some (decide (x = y)) := by
  unfold okS at *
  have : PyData.eqv (.str x) (.str y) = decide (x = y) := by unfold PyData.eqv; by_cases h : x = y <;> simp [h]
  simp [eqD, hx, hy, this]
/-! walks -/
@[simp] theorem stands_p (M M' : Mem) (d : D) : stands M M' [.p d] = true := by rfl
@[simp] theorem stands_2 (M M' : Mem) (a b : U) (r : List U) : stands M M' (a :: b :: r) = true := by cases a <;> rfl
theorem stands_refl {M : Mem} {n : Nat} {xs : List D} (h : M[n]? = some (.pl xs)) : stands M M [.ref n] = true := by simp [stands, h, sames_refl]
@[simp] theorem stands_rl (M M' : Mem) (ns : List Nat) : stands M M' [.rl ns] = true := by rfl
@[simp] theorem stands_scr (M M' : Mem) (ns : List D) : stands M M' [.scr ns] = true := by rfl
theorem gather_map {f : U → Mem → R (Option U)} {M : Mem} {h : U → U} : ∀ (xs acc : List U), (∀ x ∈ xs, f x M = .ok (some (h x)) M) → acc.length + xs.length ≤ sizeLine → gather f xs acc M = .ok (acc ++ xs.map h) M
  | [], acc, _, _ => by simp [gather]
  | x :: xs, acc, hx, hl => by
    simp only [List.length_cons] at hl
    have hl' : acc.length < sizeLine := by omega
    simp only [gather, hx x List.mem_cons_self, bind_okE, hl', if_true]
    rw [gather_map xs (acc ++ [h x]) (fun y hy => hx y (List.mem_cons_of_mem _ hy)) (by simp; omega)]
    simp
theorem gather_filter {f : U → Mem → R (Option U)} {M : Mem} {h : U → Option U} : ∀ (xs acc : List U), (∀ x ∈ xs, f x M = .ok (h x) M) → acc.length + xs.length ≤ sizeLine → gather f xs acc M = .ok (acc ++ xs.filterMap h) M
  | [], acc, _, _ => by simp [gather]
  | x :: xs, acc, hx, hl => by
    simp only [List.length_cons] at hl
    have hl' : acc.length < sizeLine := by omega
    simp only [gather, hx x List.mem_cons_self, bind_okE]
    cases hh : h x with
    | none => simp only [List.filterMap_cons, hh]; exact gather_filter xs acc (fun y hy => hx y (List.mem_cons_of_mem _ hy)) (by omega)
    | some y =>
      simp only [hl', if_true, List.filterMap_cons, hh]
      rw [gather_filter xs (acc ++ [y]) (fun y hy => hx y (List.mem_cons_of_mem _ hy)) (by simp; omega)]
      simp
@[simp] theorem pures_map (ds : List D) : pures (ds.map .p) = some ds := by induction ds <;> simp_all
theorem mkL_p {us : List U} {ds : List D} (h : pures us = some ds) : mkL us = some (.p (.list ds)) := by simp [mkL, h]
@[simp] theorem mkL_map (ds : List D) : mkL (ds.map .p) = some (.p (.list ds)) := mkL_p (pures_map ds)
@[simp] theorem mkL_nil : mkL [] = some (.p (.list [])) := by rfl
@[simp] theorem mkL_cons (d : D) (us : List U) (ds : List D) (h : pures us = some ds) : mkL (.p d :: us) = some (.p (.list (d :: ds))) := mkL_p (by simp [h])
section
variable {Φ : Fn} {ρ : Env} {M : Mem} {g : Tg} {own : List Nat} {it : IT} {src : CEs} {elt c : CE} {us : List U}
/-- [elt for g in src], nothing drawn -/
theorem lc_map {ds : List D} {h : D → D} (hs : evL Φ src ρ M = .ok us M) (hw : walk M it us = some (ds.map .p)) (hst : stands M M us = true) (hl : ds.length ≤ sizeLine) (hx : ∀ d ∈ ds, ∃ ρ1, put g (.p d) (wipeE ρ own) = some ρ1 ∧ evE Φ elt ρ1 M = .ok (.p (h d)) M) :
    evE Φ (.lc g own it src .nil elt) ρ M = .ok (.p (.list (ds.map h))) M := by
  simp only [evE, hs, bind_okE, hw]
  rw [gather_map (h := fun u => match u with | .p d => .p (h d) | u => u)]
  · simp only [bind_okE, hst, if_true, List.nil_append, List.map_map]
    have : (List.map ((fun u => match u with | U.p d => U.p (h d) | u => u) ∘ U.p) ds) = (ds.map h).map .p := by simp
    rw [this, mkL_map]; rfl
  · intro x hx'
    obtain ⟨d, hd, rfl⟩ := List.mem_map.mp hx'
    obtain ⟨ρ1, h1, h2⟩ := hx d hd
    simp [h1, hst, h2]
  · simpa using hl
/-- [elt for g in src if c], nothing drawn -/
theorem lc_filter {ds : List D} {t : D → Bool} {h : D → D} (hs : evL Φ src ρ M = .ok us M) (hw : walk M it us = some (ds.map .p)) (hst : stands M M us = true) (hl : ds.length ≤ sizeLine) (hx : ∀ d ∈ ds, ∃ ρ1, put g (.p d) (wipeE ρ own) = some ρ1 ∧ evE Φ c ρ1 M = .ok (.p (.bool (t d))) M ∧ (t d = true → evE Φ elt ρ1 M = .ok (.p (h d)) M)) :
    evE Φ (.lc g own it src (.cons c .nil) elt) ρ M = .ok (.p (.list ((ds.filter t).map h))) M := by
  simp only [evE, hs, bind_okE, hw]
  rw [gather_filter (h := fun u => match u with | .p d => if t d then some (.p (h d)) else none | u => none)]
  · simp only [bind_okE, hst, if_true, List.nil_append]
    have : List.filterMap (fun u => match u with | U.p d => if t d then some (U.p (h d)) else none | u => none) (ds.map .p) = ((ds.filter t).map h).map .p := by
      clear hx hw hl
      induction ds with
      | nil => rfl
      | cons d ds ih =>
        simp only [List.map_cons, List.filterMap_cons]
        cases hd : t d <;> simp [hd, ih]
    rw [this, mkL_map]; rfl
  · intro x hx'
    obtain ⟨d, hd, rfl⟩ := List.mem_map.mp hx'
    obtain ⟨ρ1, h1, h2, h3⟩ := hx d hd
    simp only [h1, hst, if_true, b_and, b_nil, h2, bind_okE, brU_b]
    cases ht : t d with
    | false => simp
    | true => simp [h3 ht]
  · simpa using hl
end
@[simp] theorem walk_seqT (M : Mem) (ds : List D) : walk M .seq [.p (.tuple ds)] = some (ds.map .p) := by rfl
@[simp] theorem walk_seqL (M : Mem) (ds : List D) : walk M .seq [.p (.list ds)] = some (ds.map .p) := by rfl
@[simp] theorem walk_seqS (M : Mem) (x : Str) : walk M .seq [.p (.str x)] = some ((signs x).map .p) := by rfl
@[simp] theorem walk_enumT (M : Mem) (ds : List D) : walk M .enum [.p (.tuple ds)] = some ((pairUp 0 ds).map .p) := by rfl
@[simp] theorem walk_enumL (M : Mem) (ds : List D) : walk M .enum [.p (.list ds)] = some ((pairUp 0 ds).map .p) := by rfl
theorem w_r1 (M : Mem) (d : D) : walk M .range1 [.p d] = (walkD .range1 [d]).map (·.map .p) := by
  unfold walk; rfl
theorem w_r2 (M : Mem) (d e : D) : walk M .range2 [.p d, .p e] = (walkD .range2 [d, e]).map (·.map .p) := by
  unfold walk; rfl
theorem wd_r1 (i : Int) : walkD .range1 [.int i] = if small62 i = true then some (up 0 i.toNat) else none := by
  unfold walkD; rfl
theorem wd_r2 (i j : Int) : walkD .range2 [.int i, .int j] = if (small62 i && small62 j) = true then some (up i (j - i).toNat) else none := by
  unfold walkD; rfl
theorem small_of {i : Int} (h : 0 ≤ i) (h2 : i < 1000000) : small62 i = true := by
  unfold small62
  have e : ((2 : Int) ^ 62) = 4611686018427387904 := by decide
  rw [e]
  simp only [Bool.and_eq_true, decide_eq_true_eq]
  omega
theorem walk_range (M : Mem) (n : Nat) (h : n < 1000000) : walk M .range1 [.p (.int n)] = some ((up 0 n).map .p) := by
  rw [w_r1, wd_r1, if_pos (small_of (by omega) (by omega)), Int.toNat_natCast]; rfl
theorem walk_rangeI (M : Mem) (i : Int) (h : 0 ≤ i) (h2 : i < 1000000) : walk M .range1 [.p (.int i)] = some ((up 0 i.toNat).map .p) := by
  rw [w_r1, wd_r1, if_pos (small_of h h2)]; rfl
@[simp] theorem ite_okb (c : Prop) [Decidable c] (M : Mem) : (if c then R.ok (U.p (.bool true)) M else R.ok (U.p (.bool false)) M) = R.ok (U.p (.bool (decide c))) M := by split <;> simp_all
@[simp] theorem ite_okn (c : Prop) [Decidable c] (M : Mem) : (if c then R.ok (U.p (.bool false)) M else R.ok (U.p (.bool true)) M) = R.ok (U.p (.bool (decide ¬c))) M := by split <;> simp_all
@[simp] theorem ite_retb (c : Prop) [Decidable c] (M : Mem) : (if c then SR.ret (U.p (.bool true)) M else SR.ret (U.p (.bool false)) M) = SR.ret (U.p (.bool (decide c))) M := by split <;> simp_all
/-- frames -/
theorem leave_p {M M' : Mem} {n : Nat} {d : D} (h : (M'.take n) = M) (hM : Cl M) (hn : n = M.length) : leave n false (.p d) M' = .ok (.p d) M := by
  subst hn
  unfold leave Cl at *
  simp [h, hM, frz]
theorem take_self {M : Mem} : M.take M.length = M := by simp
@[simp] theorem leave_same {M : Mem} {d : D} (hM : Cl M) : leave M.length false (.p d) M = .ok (.p d) M := leave_p (by simp) hM rfl
@[simp] theorem leaveX_same {M : Mem} {c : Str} (hM : Cl M) : leaveX M.length false c M = .exc c M := by
  unfold leaveX Cl at *
  simp [hM]
/-- a def's end -/
def endD (n : Nat) (keep : Bool) : SR → R U
  | .ret u M' => leave n keep u M'
  | .next _ M' => leave n keep (.p .none) M'
  | .exc c M' => leaveX n keep c M'
  | .bad => .bad
@[simp] theorem endD_ret (n : Nat) (k : Bool) (u : U) (M : Mem) : endD n k (.ret u M) = leave n k u M := by rfl
@[simp] theorem endD_next (n : Nat) (k : Bool) (ρ : Env) (M : Mem) : endD n k (.next ρ M) = leave n k (.p .none) M := by rfl
@[simp] theorem endD_exc (n : Nat) (k : Bool) (c : Str) (M : Mem) : endD n k (.exc c M) = leaveX n k c M := by rfl
@[simp] theorem endD_ite (n : Nat) (k : Bool) (c : Prop) [Decidable c] (x y : SR) : endD n k (if c then x else y) = if c then endD n k x else endD n k y := by split <;> rfl
theorem runDef_e (Φ : Fn) (d : CDef) (us : List U) (M : Mem) (h : us.length = d.ps.length) : runDef Φ d us M = endD M.length d.keep (exL Φ d.body (us.map some ++ List.replicate (d.N.length - us.length) none) M) := by
  unfold runDef endD
  rw [if_pos h] <;> rfl
theorem run_e {T : Tb} {f : Str} {d : CDef} (h : T.lookup f = some d) (k : Nat) (us : List U) (M : Mem) (hl : us.length = d.ps.length) : run T (k + 1) f us M = endD M.length d.keep (exL (run T k) d.body (us.map some ++ List.replicate (d.N.length - us.length) none) M) := by
  rw [run_s h, runDef_e _ _ _ _ hl]
end VW
end
section
/-! Written by gen.py: the defs of law k01 in the small language. -/
namespace VW
open PySem
def c_divisor : CDef := ⟨["one", "other"], ["one", "other"], false, (.cons (.whl (.cmp .ne (.var 1) (.lit (.int 0))) (.cons (.par 0 1 (.var 1) (.bin .mod (.var 0) (.var 1))) .nil)) (.cons (.ret (.var 0)) .nil))⟩
def c_is_less : CDef := ⟨["one", "other"], ["one", "other"], false, (.cons (.ret (.cmp .lt (.bin .mul (.ix (.var 0) (.lit (.int 0))) (.ix (.var 1) (.lit (.int 1)))) (.bin .mul (.ix (.var 1) (.lit (.int 0))) (.ix (.var 0) (.lit (.int 1)))))) .nil)⟩
def c_is_whole : CDef := ⟨["value", "low", "high"], ["value", "low", "high"], false, (.cons (.ret (.boo true (.cons (.prim .isInt (.cons (.var 0) .nil)) (.cons (.nt (.prim .isBool (.cons (.var 0) .nil))) (.cons (.chain .le .le (.var 1) (.var 0) (.var 2)) .nil))))) .nil)⟩
def c_is_fraction : CDef := ⟨["value", "most", "bottom"], ["value", "most", "bottom"], false, (.cons (.iff (.boo false (.cons (.nt (.prim .isTuple (.cons (.var 0) .nil))) (.cons (.cmp .ne (.prim .len (.cons (.var 0) .nil)) (.lit (.int 2))) .nil))) (.cons (.ret (.lit (.bool false))) .nil) .nil) (.cons (.iff (.boo false (.cons (.nt (.call "is_whole" (.cons (.ix (.var 0) (.lit (.int 0))) (.cons (.neg (.var 1)) (.cons (.var 1) .nil))))) (.cons (.nt (.call "is_whole" (.cons (.ix (.var 0) (.lit (.int 1))) (.cons (.lit (.int 1)) (.cons (.var 2) .nil))))) .nil))) (.cons (.ret (.lit (.bool false))) .nil) .nil) (.cons (.ret (.cmp .eq (.call "divisor" (.cons (.prim .abs (.cons (.ix (.var 0) (.lit (.int 0))) .nil)) (.cons (.ix (.var 0) (.lit (.int 1))) .nil))) (.lit (.int 1)))) .nil)))⟩
def c_are_marks : CDef := ⟨["value", "some"], ["value", "some", "places", "sign"], false, (.cons (.iff (.boo false (.cons (.nt (.prim .isStr (.cons (.var 0) .nil))) (.cons (.cmp .eq (.var 0) (.lit (.str ""))) .nil))) (.cons (.ret (.lit (.bool false))) .nil) .nil) (.cons (.asg (.nm 2) (.lc (.nm 3) [3] .seq (.cons (.var 0) .nil) .nil (.met .find (.var 1) (.cons (.var 3) .nil)))) (.cons (.ret (.boo true (.cons (.cmp .ge (.prim .min (.cons (.var 2) .nil)) (.lit (.int 0))) (.cons (.cmp .eq (.var 2) (.prim .sortedSet (.cons (.var 2) .nil))) .nil)))) .nil)))⟩
def c_is_kind : CDef := ⟨["value"], ["value"], false, (.cons (.iff (.cmp .eq (.var 0) (.lit (.str "0"))) (.cons (.ret (.lit (.bool true))) .nil) .nil) (.cons (.ret (.boo true (.cons (.call "are_marks" (.cons (.var 0) (.cons (.glo "LETTERS" (.str "abcdefghijklmnopqrstuvwxyz")) .nil))) (.cons (.chain .le .le (.lit (.int 2)) (.prim .len (.cons (.var 0) .nil)) (.lit (.int 4))) .nil)))) .nil))⟩
def c_are_votes : CDef := ⟨["value", "answers"], ["value", "answers", "one"], false, (.cons (.ret (.boo true (.cons (.prim .isTuple (.cons (.var 0) .nil)) (.cons (.cmp .eq (.prim .len (.cons (.var 0) .nil)) (.var 1)) (.cons (.prim .all (.cons (.lc (.nm 2) [2] .seq (.cons (.var 0) .nil) .nil (.call "is_whole" (.cons (.var 2) (.cons (.neg (.lit (.int 9))) (.cons (.lit (.int 9)) .nil))))) .nil)) .nil))))) .nil)⟩
def c_is_tree_of : CDef := ⟨["value", "kinds", "answers", "deep"], ["value", "kinds", "answers", "deep", "kind", "one"], false, (.cons (.iff (.boo false (.cons (.nt (.prim .isTuple (.cons (.var 0) .nil))) (.cons (.cmp .eq (.var 3) (.lit (.int 0))) (.cons (.cmp .notin (.prim .len (.cons (.var 0) .nil)) (.tup (.cons (.lit (.int 2)) (.cons (.lit (.int 5)) .nil)))) (.cons (.nt (.prim .isStr (.cons (.ix (.var 0) (.lit (.int 0))) .nil))) .nil))))) (.cons (.ret (.lit (.bool false))) .nil) .nil) (.cons (.iff (.cmp .eq (.prim .len (.cons (.var 0) .nil)) (.lit (.int 2))) (.cons (.ret (.boo true (.cons (.cmp .eq (.ix (.var 0) (.lit (.int 0))) (.lit (.str "leaf"))) (.cons (.call "are_votes" (.cons (.ix (.var 0) (.lit (.int 1))) (.cons (.var 2) .nil))) .nil)))) .nil) .nil) (.cons (.iff (.boo false (.cons (.cmp .notin (.ix (.var 0) (.lit (.int 0))) (.tup (.cons (.lit (.str "below")) (.cons (.lit (.str "among")) .nil)))) (.cons (.nt (.call "is_whole" (.cons (.ix (.var 0) (.lit (.int 1))) (.cons (.lit (.int 0)) (.cons (.bin .sub (.prim .len (.cons (.var 1) .nil)) (.lit (.int 1))) .nil))))) .nil))) (.cons (.ret (.lit (.bool false))) .nil) .nil) (.cons (.asg (.nm 4) (.ix (.var 1) (.ix (.var 0) (.lit (.int 1))))) (.cons (.iff (.boo true (.cons (.cmp .eq (.ix (.var 0) (.lit (.int 0))) (.lit (.str "below"))) (.cons (.boo false (.cons (.cmp .ne (.var 4) (.lit (.str "0"))) (.cons (.nt (.call "is_fraction" (.cons (.ix (.var 0) (.lit (.int 2))) (.cons (.lit (.int 99)) (.cons (.lit (.int 4)) .nil))))) .nil))) .nil))) (.cons (.ret (.lit (.bool false))) .nil) .nil) (.cons (.iff (.boo true (.cons (.cmp .eq (.ix (.var 0) (.lit (.int 0))) (.lit (.str "among"))) (.cons (.boo false (.cons (.cmp .eq (.var 4) (.lit (.str "0"))) (.cons (.nt (.call "are_marks" (.cons (.ix (.var 0) (.lit (.int 2))) (.cons (.var 4) .nil)))) .nil))) .nil))) (.cons (.ret (.lit (.bool false))) .nil) .nil) (.cons (.ret (.prim .all (.cons (.lc (.nm 5) [5] .seq (.cons (.sl (.var 0) (.cons (.lit (.int 3)) .nil) .nil) .nil) .nil (.call "is_tree_of" (.cons (.var 5) (.cons (.var 1) (.cons (.var 2) (.cons (.bin .sub (.var 3) (.lit (.int 1))) .nil)))))) .nil))) .nil)))))))⟩
def c_count_of : CDef := ⟨["tree"], ["tree"], false, (.cons (.ret (.ite (.cmp .eq (.ix (.var 0) (.lit (.int 0))) (.lit (.str "leaf"))) (.lit (.int 1)) (.bin .add (.call "count_of" (.cons (.ix (.var 0) (.lit (.int 3))) .nil)) (.call "count_of" (.cons (.ix (.var 0) (.lit (.int 4))) .nil))))) .nil)⟩
def c_is_small_tree : CDef := ⟨["value", "kinds", "answers"], ["value", "kinds", "answers"], false, (.cons (.ret (.boo true (.cons (.call "is_tree_of" (.cons (.var 0) (.cons (.var 1) (.cons (.var 2) (.cons (.lit (.int 8)) .nil))))) (.cons (.cmp .le (.call "count_of" (.cons (.var 0) .nil)) (.glo "MOST_LEAVES" (.int 8))) .nil)))) .nil)⟩
def c_is_forest : CDef := ⟨["value"], ["value", "kinds", "answers", "trees", "tree", "kind"], false, (.cons (.iff (.boo false (.cons (.nt (.prim .isTuple (.cons (.var 0) .nil))) (.cons (.cmp .ne (.prim .len (.cons (.var 0) .nil)) (.lit (.int 3))) (.cons (.nt (.prim .isTuple (.cons (.ix (.var 0) (.lit (.int 0))) .nil))) .nil)))) (.cons (.ret (.lit (.bool false))) .nil) .nil) (.cons (.asg (.tp [1, 2, 3]) (.var 0)) (.cons (.iff (.boo false (.cons (.nt (.chain .le .le (.lit (.int 1)) (.prim .len (.cons (.var 1) .nil)) (.lit (.int 3)))) (.cons (.nt (.prim .all (.cons (.lc (.nm 5) [5] .seq (.cons (.var 1) .nil) .nil (.call "is_kind" (.cons (.var 5) .nil))) .nil))) (.cons (.nt (.call "is_whole" (.cons (.var 2) (.cons (.lit (.int 2)) (.cons (.lit (.int 3)) .nil))))) .nil)))) (.cons (.ret (.lit (.bool false))) .nil) .nil) (.cons (.iff (.boo false (.cons (.nt (.prim .isTuple (.cons (.var 3) .nil))) (.cons (.nt (.chain .le .le (.lit (.int 1)) (.prim .len (.cons (.var 3) .nil)) (.lit (.int 4)))) .nil))) (.cons (.ret (.lit (.bool false))) .nil) .nil) (.cons (.ret (.prim .all (.cons (.lc (.nm 4) [4] .seq (.cons (.var 3) .nil) .nil (.call "is_small_tree" (.cons (.var 4) (.cons (.var 1) (.cons (.var 2) .nil))))) .nil))) .nil)))))⟩
def c_need_forest : CDef := ⟨["forest"], ["forest"], false, (.cons (.iff (.nt (.call "is_forest" (.cons (.var 0) .nil))) (.cons (.rai "InvalidForest") .nil) .nil) .nil)⟩
def c_is_input : CDef := ⟨["value", "kinds"], ["value", "kinds", "at", "kind"], false, (.cons (.iff (.boo false (.cons (.nt (.prim .isTuple (.cons (.var 0) .nil))) (.cons (.cmp .ne (.prim .len (.cons (.var 0) .nil)) (.prim .len (.cons (.var 1) .nil))) .nil))) (.cons (.ret (.lit (.bool false))) .nil) .nil) (.cons (.for_ (.tp [2, 3]) .enum (.cons (.var 1) .nil) (.cons (.iff (.boo true (.cons (.cmp .eq (.var 3) (.lit (.str "0"))) (.cons (.nt (.call "is_fraction" (.cons (.ix (.var 0) (.var 2)) (.cons (.bin .pow (.lit (.int 10)) (.lit (.int 12))) (.cons (.bin .pow (.lit (.int 10)) (.lit (.int 12))) .nil))))) .nil))) (.cons (.ret (.lit (.bool false))) .nil) .nil) (.cons (.iff (.boo true (.cons (.cmp .ne (.var 3) (.lit (.str "0"))) (.cons (.boo false (.cons (.nt (.call "are_marks" (.cons (.ix (.var 0) (.var 2)) (.cons (.var 3) .nil)))) (.cons (.cmp .ne (.prim .len (.cons (.ix (.var 0) (.var 2)) .nil)) (.lit (.int 1))) .nil))) .nil))) (.cons (.ret (.lit (.bool false))) .nil) .nil) .nil))) (.cons (.ret (.lit (.bool true))) .nil)))⟩
def c_need_input : CDef := ⟨["forest", "given"], ["forest", "given"], false, (.cons (.exp (.call "need_forest" (.cons (.var 0) .nil))) (.cons (.iff (.nt (.call "is_input" (.cons (.var 1) (.cons (.ix (.var 0) (.lit (.int 0))) .nil)))) (.cons (.rai "InvalidInput") .nil) .nil) .nil))⟩
def c_leaf_of : CDef := ⟨["tree", "given"], ["tree", "given"], false, (.cons (.whl (.cmp .ne (.ix (.var 0) (.lit (.int 0))) (.lit (.str "leaf"))) (.cons (.iff (.cmp .eq (.ix (.var 0) (.lit (.int 0))) (.lit (.str "below"))) (.cons (.asg (.nm 0) (.ite (.call "is_less" (.cons (.ix (.var 1) (.ix (.var 0) (.lit (.int 1)))) (.cons (.ix (.var 0) (.lit (.int 2))) .nil))) (.ix (.var 0) (.lit (.int 3))) (.ix (.var 0) (.lit (.int 4))))) .nil) (.cons (.asg (.nm 0) (.ite (.cmp .isin (.ix (.var 1) (.ix (.var 0) (.lit (.int 1)))) (.ix (.var 0) (.lit (.int 2)))) (.ix (.var 0) (.lit (.int 3))) (.ix (.var 0) (.lit (.int 4))))) .nil)) .nil)) (.cons (.ret (.var 0)) .nil))⟩
def c_votes_of : CDef := ⟨["forest", "given"], ["forest", "given", "rows", "tree", "at", "row"], false, (.cons (.asg (.nm 2) (.lc (.nm 3) [3] .seq (.cons (.ix (.var 0) (.lit (.int 2))) .nil) .nil (.ix (.call "leaf_of" (.cons (.var 3) (.cons (.var 1) .nil))) (.lit (.int 1))))) (.cons (.ret (.prim .tuple (.cons (.lc (.nm 4) [4] .range1 (.cons (.ix (.var 0) (.lit (.int 1))) .nil) .nil (.prim .sum (.cons (.lc (.nm 5) [5] .seq (.cons (.var 2) .nil) .nil (.ix (.var 5) (.var 4))) .nil))) .nil))) .nil))⟩
def c_first_greatest : CDef := ⟨["votes"], ["votes"], false, (.cons (.ret (.met .index (.var 0) (.cons (.prim .max (.cons (.var 0) .nil)) .nil))) .nil)⟩
def c_votes : CDef := ⟨["forest", "given"], ["forest", "given"], false, (.cons (.exp (.call "need_input" (.cons (.var 0) (.cons (.var 1) .nil)))) (.cons (.ret (.call "votes_of" (.cons (.var 0) (.cons (.var 1) .nil)))) .nil))⟩
def c_answer : CDef := ⟨["forest", "given"], ["forest", "given"], false, (.cons (.exp (.call "need_input" (.cons (.var 0) (.cons (.var 1) .nil)))) (.cons (.ret (.call "first_greatest" (.cons (.call "votes_of" (.cons (.var 0) (.cons (.var 1) .nil))) .nil))) .nil))⟩
def c_gap : CDef := ⟨["forest", "given"], ["forest", "given", "some"], false, (.cons (.exp (.call "need_input" (.cons (.var 0) (.cons (.var 1) .nil)))) (.cons (.asg (.nm 2) (.prim .sorted (.cons (.call "votes_of" (.cons (.var 0) (.cons (.var 1) .nil))) .nil))) (.cons (.ret (.bin .sub (.ix (.var 2) (.neg (.lit (.int 1)))) (.ix (.var 2) (.neg (.lit (.int 2)))))) .nil)))⟩
def c_law_cell : CDef := ⟨["script", "k"], ["script", "k"], false, (.cons (.iff (.cmp .eq (.var 0) (.lst .nil)) (.cons (.ret (.bin .mul (.var 1) (.lit (.int 7919)))) .nil) .nil) (.cons (.ret (.bin .add (.ix (.var 0) (.bin .mod (.var 1) (.prim .len (.cons (.var 0) .nil)))) (.bin .mul (.bin .fdiv (.var 1) (.prim .len (.cons (.var 0) .nil))) (.lit (.int 104729))))) .nil))⟩
def c_law_drawn : CDef := ⟨["cell", "k"], ["cell", "k", "more"], false, (.cons (.asg (.nm 2) (.bin .mod (.bin .add (.bin .mul (.var 0) (.lit (.int 6364136223846793005))) (.bin .mul (.bin .add (.var 1) (.lit (.int 1))) (.lit (.int 1442695040888963407)))) (.lit (.int 340282366920938463463374607431768211507)))) (.cons (.asg (.nm 2) (.bin .mod (.bin .mul (.var 2) (.var 2)) (.lit (.int 340282366920938463463374607431768211297)))) (.cons (.asg (.nm 2) (.bin .mul (.bin .mul (.bin .add (.bin .mod (.var 2) (.lit (.int 18446744073709551557))) (.lit (.int 1))) (.bin .add (.bin .fdiv (.var 2) (.lit (.int 18446744073709551557))) (.lit (.int 1)))) (.var 2))) (.cons (.ret (.bin .mod (.var 2) (.lit (.int 340282366920938463463374607431768211507)))) .nil))))⟩
def c_law_roll : CDef := ⟨["dice", "many"], ["dice", "many", "told"], false, (.cons (.iff (.cmp .ge (.ix (.var 0) (.lit (.int 0))) (.bin .pow (.lit (.int 10)) (.lit (.int 18)))) (.cons (.asg (.nm 2) (.bin .mod (.ix (.var 0) (.lit (.int 0))) (.var 1))) (.cons (.sti (.var 0) (.lit (.int 0)) (.bin .fdiv (.ix (.var 0) (.lit (.int 0))) (.var 1))) (.cons (.ret (.var 2)) .nil))) .nil) (.cons (.sti (.var 0) (.lit (.int 1)) (.bin .add (.ix (.var 0) (.lit (.int 1))) (.lit (.int 1)))) (.cons (.ret (.bin .mod (.bin .fdiv (.call "_law_drawn" (.cons (.ix (.var 0) (.lit (.int 0))) (.cons (.ix (.var 0) (.lit (.int 1))) .nil))) (.lit (.int 8))) (.var 1))) .nil)))⟩
def c_law_rounds : CDef := ⟨["script", "most"], ["script", "most", "k"], true, (.cons (.ret (.lc (.nm 2) [2] .range1 (.cons (.prim .max (.cons (.lit (.int 1)) (.cons (.prim .min (.cons (.var 1) (.cons (.prim .len (.cons (.var 0) .nil)) .nil))) .nil))) .nil) .nil (.lstR (.cons (.call "_law_cell" (.cons (.var 0) (.cons (.var 2) .nil))) (.cons (.lit (.int 0)) .nil))))) .nil)⟩
def c_law_low : CDef := ⟨["top", "bottom"], ["top", "bottom", "one", "other"], false, (.cons (.par 2 3 (.prim .abs (.cons (.var 0) .nil)) (.var 1)) (.cons (.whl (.cmp .ne (.var 3) (.lit (.int 0))) (.cons (.par 2 3 (.var 3) (.bin .mod (.var 2) (.var 3))) .nil)) (.cons (.ret (.tup (.cons (.bin .fdiv (.var 0) (.var 2)) (.cons (.bin .fdiv (.var 1) (.var 2)) .nil)))) .nil)))⟩
def c_law_below : CDef := ⟨["one", "other"], ["one", "other"], false, (.cons (.ret (.cmp .lt (.bin .mul (.ix (.var 0) (.lit (.int 0))) (.ix (.var 1) (.lit (.int 1)))) (.bin .mul (.ix (.var 1) (.lit (.int 0))) (.ix (.var 0) (.lit (.int 1)))))) .nil)⟩
def c_law_kinds : CDef := ⟨["dice"], ["dice", "some", "at"], false, (.cons (.asg (.nm 1) (.lst (.cons (.lit (.str "0")) (.cons (.lit (.str "0")) (.cons (.lit (.str "ab")) (.cons (.lit (.str "abc")) (.cons (.lit (.str "bdx")) (.cons (.lit (.str "0")) (.cons (.lit (.str "klmz")) .nil))))))))) (.cons (.ret (.prim .tuple (.cons (.lc (.nm 2) [2] .range1 (.cons (.bin .add (.lit (.int 1)) (.call "_law_roll" (.cons (.var 0) (.cons (.lit (.int 3)) .nil)))) .nil) .nil (.ix (.var 1) (.call "_law_roll" (.cons (.var 0) (.cons (.lit (.int 7)) .nil))))) .nil))) .nil))⟩
def c_law_place : CDef := ⟨["dice"], ["dice"], false, (.cons (.ret (.call "_law_low" (.cons (.bin .sub (.call "_law_roll" (.cons (.var 0) (.cons (.lit (.int 17)) .nil))) (.lit (.int 8))) (.cons (.ix (.lst (.cons (.lit (.int 1)) (.cons (.lit (.int 1)) (.cons (.lit (.int 2)) (.cons (.lit (.int 4)) .nil))))) (.call "_law_roll" (.cons (.var 0) (.cons (.lit (.int 4)) .nil)))) .nil)))) .nil)⟩
def c_law_some_marks : CDef := ⟨["dice", "kind"], ["dice", "kind", "found", "letter"], false, (.cons (.asg (.nm 2) (.met .join (.lit (.str "")) (.cons (.lc (.nm 3) [3] .seq (.cons (.var 1) .nil) (.cons (.cmp .eq (.call "_law_roll" (.cons (.var 0) (.cons (.lit (.int 2)) .nil))) (.lit (.int 0))) .nil) (.var 3)) .nil))) (.cons (.ret (.ite (.cmp .ne (.var 2) (.lit (.str ""))) (.var 2) (.ix (.var 1) (.call "_law_roll" (.cons (.var 0) (.cons (.prim .len (.cons (.var 1) .nil)) .nil)))))) .nil))⟩
def c_law_tree : CDef := ⟨["dice", "kinds", "answers", "most"], ["dice", "kinds", "answers", "most", "test", "one", "part", "few", "at"], false, (.cons (.iff (.boo false (.cons (.cmp .lt (.var 3) (.lit (.int 2))) (.cons (.cmp .eq (.call "_law_roll" (.cons (.var 0) (.cons (.lit (.int 5)) .nil))) (.lit (.int 0))) .nil))) (.cons (.ret (.tup (.cons (.lit (.str "leaf")) (.cons (.prim .tuple (.cons (.lc (.nm 8) [8] .range1 (.cons (.var 2) .nil) .nil (.bin .sub (.call "_law_roll" (.cons (.var 0) (.cons (.lit (.int 7)) .nil))) (.lit (.int 2)))) .nil)) .nil)))) .nil) .nil) (.cons (.par 6 7 (.call "_law_roll" (.cons (.var 0) (.cons (.prim .len (.cons (.var 1) .nil)) .nil))) (.bin .add (.lit (.int 1)) (.call "_law_roll" (.cons (.var 0) (.cons (.bin .sub (.var 3) (.lit (.int 1))) .nil))))) (.cons (.asg (.nm 4) (.tup (.cons (.lit (.str "below")) (.cons (.var 6) (.cons (.call "_law_place" (.cons (.var 0) .nil)) .nil))))) (.cons (.iff (.cmp .ne (.ix (.var 1) (.var 6)) (.lit (.str "0"))) (.cons (.asg (.nm 4) (.tup (.cons (.lit (.str "among")) (.cons (.var 6) (.cons (.call "_law_some_marks" (.cons (.var 0) (.cons (.ix (.var 1) (.var 6)) .nil))) .nil))))) .nil) .nil) (.cons (.asg (.nm 5) (.call "_law_tree" (.cons (.var 0) (.cons (.var 1) (.cons (.var 2) (.cons (.var 7) .nil)))))) (.cons (.ret (.bin .add (.var 4) (.tup (.cons (.var 5) (.cons (.call "_law_tree" (.cons (.var 0) (.cons (.var 1) (.cons (.var 2) (.cons (.bin .sub (.var 3) (.var 7)) .nil))))) .nil))))) .nil))))))⟩
def c_law_forest_of : CDef := ⟨["dice", "kinds", "answers", "trees", "leaves"], ["dice", "kinds", "answers", "trees", "leaves", "found", "at"], false, (.cons (.asg (.nm 5) (.lc (.nm 6) [6] .range1 (.cons (.bin .add (.lit (.int 1)) (.call "_law_roll" (.cons (.var 0) (.cons (.var 3) .nil)))) .nil) .nil (.call "_law_tree" (.cons (.var 0) (.cons (.var 1) (.cons (.var 2) (.cons (.bin .add (.lit (.int 1)) (.call "_law_roll" (.cons (.var 0) (.cons (.var 4) .nil)))) .nil))))))) (.cons (.ret (.tup (.cons (.var 1) (.cons (.var 2) (.cons (.prim .tuple (.cons (.var 5) .nil)) .nil))))) .nil))⟩
def c_law_forest : CDef := ⟨["dice", "trees", "leaves"], ["dice", "trees", "leaves"], false, (.cons (.ret (.call "_law_forest_of" (.cons (.var 0) (.cons (.call "_law_kinds" (.cons (.var 0) .nil)) (.cons (.bin .add (.lit (.int 2)) (.call "_law_roll" (.cons (.var 0) (.cons (.lit (.int 2)) .nil)))) (.cons (.var 1) (.cons (.var 2) .nil))))))) .nil)⟩
def c_law_input : CDef := ⟨["dice", "kinds"], ["dice", "kinds", "found", "kind", "near"], false, (.cons (.new 2 (.lst .nil)) (.cons (.for_ (.nm 3) .seq (.cons (.var 1) .nil) (.cons (.iff (.cmp .eq (.var 3) (.lit (.str "0"))) (.cons (.asg (.nm 4) (.lst (.cons (.call "_law_place" (.cons (.var 0) .nil)) (.cons (.call "_law_low" (.cons (.bin .sub (.call "_law_roll" (.cons (.var 0) (.cons (.lit (.int 81)) .nil))) (.lit (.int 40))) (.cons (.bin .add (.lit (.int 1)) (.call "_law_roll" (.cons (.var 0) (.cons (.lit (.int 7)) .nil)))) .nil))) .nil)))) (.cons (.app (.var 2) (.ix (.var 4) (.call "_law_roll" (.cons (.var 0) (.cons (.lit (.int 2)) .nil))))) .nil)) (.cons (.app (.var 2) (.ix (.var 3) (.call "_law_roll" (.cons (.var 0) (.cons (.prim .len (.cons (.var 3) .nil)) .nil))))) .nil)) .nil)) (.cons (.ret (.prim .tuple (.cons (.var 2) .nil))) .nil)))⟩
def c_law_leaf : CDef := ⟨["tree", "given"], ["tree", "given", "way", "first"], false, (.cons (.asg (.nm 2) (.lit (.str ""))) (.cons (.whl (.cmp .ne (.ix (.var 0) (.lit (.int 0))) (.lit (.str "leaf"))) (.cons (.iff (.cmp .eq (.ix (.var 0) (.lit (.int 0))) (.lit (.str "below"))) (.cons (.asg (.nm 3) (.call "_law_below" (.cons (.ix (.var 1) (.ix (.var 0) (.lit (.int 1)))) (.cons (.ix (.var 0) (.lit (.int 2))) .nil)))) .nil) (.cons (.asg (.nm 3) (.cmp .isin (.ix (.var 1) (.ix (.var 0) (.lit (.int 1)))) (.ix (.var 0) (.lit (.int 2))))) .nil)) (.cons (.asg (.nm 2) (.bin .add (.var 2) (.ite (.var 3) (.lit (.str "0")) (.lit (.str "1"))))) (.cons (.asg (.nm 0) (.ite (.var 3) (.ix (.var 0) (.lit (.int 3))) (.ix (.var 0) (.lit (.int 4))))) .nil)))) (.cons (.ret (.tup (.cons (.ix (.var 0) (.lit (.int 1))) (.cons (.var 2) .nil)))) .nil)))⟩
def c_law_votes : CDef := ⟨["forest", "given"], ["forest", "given", "found", "tree", "some", "at", "vote"], false, (.cons (.asg (.nm 2) (.bin .mul (.tup (.cons (.lit (.int 0)) .nil)) (.ix (.var 0) (.lit (.int 1))))) (.cons (.for_ (.nm 3) .seq (.cons (.ix (.var 0) (.lit (.int 2))) .nil) (.cons (.asg (.nm 4) (.ix (.call "_law_leaf" (.cons (.var 3) (.cons (.var 1) .nil))) (.lit (.int 0)))) (.cons (.asg (.nm 2) (.prim .tuple (.cons (.lc (.tp [5, 6]) [5, 6] .enum (.cons (.var 2) .nil) .nil (.bin .add (.var 6) (.ix (.var 4) (.var 5)))) .nil))) .nil))) (.cons (.ret (.var 2)) .nil)))⟩
def c_law_answer : CDef := ⟨["forest", "given"], ["forest", "given", "some", "at", "vote"], false, (.cons (.asg (.nm 2) (.call "_law_votes" (.cons (.var 0) (.cons (.var 1) .nil)))) (.cons (.ret (.ix (.lc (.tp [3, 4]) [3, 4] .enum (.cons (.var 2) .nil) (.cons (.cmp .eq (.var 4) (.prim .max (.cons (.var 2) .nil))) .nil) (.var 3)) (.lit (.int 0)))) .nil))⟩
def b_lawK01_1 : CSs := (.cons (.iff (.cmp .ne (.told "told votes" "votes" (.cons (.var 2) (.cons (.var 7) .nil))) (.tup (.cons (.lit (.str "error")) (.cons (.lit (.str "InvalidInput")) .nil)))) (.cons (.ret (.lit (.bool false))) .nil) .nil) (.cons (.iff (.cmp .ne (.told "told answer" "answer" (.cons (.var 2) (.cons (.var 7) .nil))) (.tup (.cons (.lit (.str "error")) (.cons (.lit (.str "InvalidInput")) .nil)))) (.cons (.ret (.lit (.bool false))) .nil) .nil) .nil))
def b_lawK01_2 : CSs := (.cons (.app (.var 6) (.bin .add (.bin .add (.sl (.var 5) .nil (.cons (.var 10) .nil)) (.tup (.cons (.var 7) .nil))) (.sl (.var 5) (.cons (.bin .add (.var 10) (.lit (.int 1))) .nil) .nil))) .nil)
def b_lawK01_3 : CSs := (.cons (.asg (.nm 12) (.ite (.cmp .eq (.var 11) (.lit (.str "0"))) (.lst (.cons (.tup (.cons (.lit (.int 2)) (.cons (.lit (.int 4)) .nil))) (.cons (.tup (.cons (.lit (.int 1)) (.cons (.lit (.int 0)) .nil))) (.cons (.lit (.int 3)) (.cons (.tup (.cons (.lit (.bool true)) (.cons (.lit (.int 1)) .nil))) (.cons (.lit (.str "a")) .nil)))))) (.lst (.cons (.lit (.str "")) (.cons (.lit (.str "q")) (.cons (.var 11) (.cons (.tup (.cons (.lit (.int 0)) (.cons (.lit (.int 1)) .nil))) (.cons (.lit .none) (.cons (.lit (.str "A")) .nil))))))))) (.cons (.for_ (.nm 7) .seq (.cons (.var 12) .nil) b_lawK01_2) .nil))
def b_lawK01_4 : CSs := (.cons (.asg (.nm 5) (.call "_law_input" (.cons (.var 1) (.cons (.var 3) .nil)))) (.cons (.asg (.nm 8) (.call "_law_votes" (.cons (.var 2) (.cons (.var 5) .nil)))) (.cons (.iff (.boo false (.cons (.cmp .ne (.call "votes" (.cons (.var 2) (.cons (.var 5) .nil))) (.var 8)) (.cons (.cmp .ne (.call "answer" (.cons (.var 2) (.cons (.var 5) .nil))) (.call "_law_answer" (.cons (.var 2) (.cons (.var 5) .nil)))) .nil))) (.cons (.ret (.lit (.bool false))) .nil) .nil) (.cons (.asg (.nm 9) (.prim .sorted (.cons (.var 8) .nil))) (.cons (.iff (.cmp .ne (.call "gap" (.cons (.var 2) (.cons (.var 5) .nil))) (.bin .sub (.ix (.var 9) (.neg (.lit (.int 1)))) (.ix (.var 9) (.neg (.lit (.int 2)))))) (.cons (.ret (.lit (.bool false))) .nil) .nil) .nil)))))
def b_lawK01_5 : CSs := (.cons (.asg (.nm 2) (.call "_law_forest" (.cons (.var 1) (.cons (.lit (.int 4)) (.cons (.lit (.int 6)) .nil))))) (.cons (.asg (.nm 3) (.ix (.var 2) (.lit (.int 0)))) (.cons (.for_ (.nm 4) .range1 (.cons (.lit (.int 6)) .nil) b_lawK01_4) (.cons (.asg (.nm 5) (.call "_law_input" (.cons (.var 1) (.cons (.var 3) .nil)))) (.cons (.new 6 (.lst (.cons (.lit .none) (.cons (.tup .nil) (.cons (.bin .add (.var 5) (.var 5)) (.cons (.prim .list (.cons (.var 5) .nil)) (.cons (.sl (.var 5) (.cons (.lit (.int 1)) .nil) .nil) .nil))))))) (.cons (.for_ (.tp [10, 11]) .enum (.cons (.var 3) .nil) b_lawK01_3) (.cons (.for_ (.nm 7) .seq (.cons (.var 6) .nil) b_lawK01_1) (.cons (.iff (.cmp .ne (.told "told gap" "gap" (.cons (.lit .none) (.cons (.lit .none) .nil))) (.tup (.cons (.lit (.str "error")) (.cons (.lit (.str "InvalidForest")) .nil)))) (.cons (.ret (.lit (.bool false))) .nil) .nil) .nil))))))))
def c_lawK01 : CDef := ⟨["script"], ["script", "dice", "forest", "kinds", "turn", "given", "bad", "thing", "due", "rest", "part", "kind", "some"], false, (.cons (.for_ (.nm 1) .seq (.cons (.call "_law_rounds" (.cons (.var 0) (.cons (.lit (.int 5)) .nil))) .nil) b_lawK01_5) (.cons (.ret (.lit (.bool true))) .nil))⟩
end VW
end
section
/-! Numbers: what the defs of numbers.py, and the law's own, compute. -/
namespace VW
open PySem
theorem gcd_while {M : Mem} {c : Env → Mem → R U} {b : Env → Mem → SR} {E : Nat → Nat → Env} (hc : ∀ x y, c (E x y) M = .ok (.p (.bool (decide (y ≠ 0)))) M) (hb : ∀ x y, 0 < y → b (E x y) M = .next (E y (x % y)) M) :
    ∀ (m n x y : Nat), y < 2 ^ m → 2 * m + 1 ≤ n → whileF c b n (E x y) M = .next (E (x.gcd y) 0) M := by
  intro m
  induction m with
  | zero =>
    intro n x y hy hn
    have : y = 0 := by simpa using hy
    subst this
    obtain ⟨n, rfl⟩ : ∃ n', n = n' + 1 := ⟨n - 1, by omega⟩
    rw [while_s, hc]
    simp
  | succ m ih =>
    intro n x y hy hn
    obtain ⟨n, rfl⟩ : ∃ n', n = n' + 1 := ⟨n - 1, by omega⟩
    rw [while_s, hc]
    by_cases h : y = 0
    · subst h; simp
    · have hp : 0 < y := by omega
      simp only [thn_okE, brU_b, h, ne_eq, not_false_iff, decide_true, if_true, hb x y hp, sbind_next]
      obtain ⟨n, rfl⟩ : ∃ n', n = n' + 1 := ⟨n - 1, by omega⟩
      rw [while_s, hc]
      have hr : x % y < y := Nat.mod_lt _ hp
      have e1 : x.gcd y = y.gcd (x % y) := by rw [Nat.gcd_comm, Nat.gcd_rec, Nat.gcd_comm]
      by_cases h2 : x % y = 0
      · rw [h2]
        simp only [ne_eq, not_true_eq_false, decide_false, thn_okE, brU_b, if_false, Bool.false_eq_true]
        rw [e1, h2, Nat.gcd_zero_right]
      · have hp2 : 0 < x % y := by omega
        simp only [thn_okE, brU_b, h2, ne_eq, not_false_iff, decide_true, if_true, hb _ _ hp2, sbind_next]
        have e2 : y.gcd (x % y) = (x % y).gcd (y % (x % y)) := by rw [Nat.gcd_comm, Nat.gcd_rec, Nat.gcd_comm]
        rw [e1, e2]
        refine ih n _ _ ?_ (by omega)
        have h3 : y % (x % y) < x % y := Nat.mod_lt _ hp2
        have h4 : y % (x % y) ≤ y - x % y := by
          have := Nat.mod_add_div y (x % y)
          have h5 : 1 ≤ y / (x % y) := (Nat.le_div_iff_mul_le hp2).mpr (by omega)
          have h6 : (x % y) * 1 ≤ (x % y) * (y / (x % y)) := Nat.mul_le_mul_left _ h5
          omega
        have h7 : (2 : Nat) ^ (m + 1) = 2 * 2 ^ m := by rw [Nat.pow_succ]; omega
        omega
structure LNum (T : Tb) : Prop where
  divisor : T.lookup ("divisor" : Str) = some c_divisor
  is_whole : T.lookup ("is_whole" : Str) = some c_is_whole
  is_fraction : T.lookup ("is_fraction" : Str) = some c_is_fraction
section
variable {T : Tb} {k : Nat} {M : Mem}
theorem r_divisor (L : LNum T) (hM : Cl M) {x y : Nat} (hy : y < 2 ^ 1000) : run T (k + 1) "divisor" [.p (.int x), .p (.int y)] M = .ok (.p (.int (x.gcd y : Nat))) M := by
  rw [run_e L.divisor _ _ _ rfl]
  simp only [c_divisor, List.map_cons, List.map_nil, List.length_cons, List.length_nil, x_cons, s_whl]
  have := gcd_while (M := M) (c := evE (run T k) (.cmp .ne (.var 1) (.lit (.int 0)))) (b := exL (run T k) (.cons (.par 0 1 (.var 1) (.bin .mod (.var 0) (.var 1))) .nil)) (E := fun x y => [some (.p (.int x)), some (.p (.int y))]) (fun x y => by
    simp) (fun x y h => by
    simp [h]) 1000 1000000 x y hy (by decide)
  simp only [List.replicate, List.cons_append, List.nil_append] at this ⊢
  simp [this, hM]
/-- an integer within bounds -/
def wholeD (d : D) (lo hi : Int) : Bool := match d with
  | .int i => decide (lo ≤ i ∧ i ≤ hi)
  | _ => false
theorem r_whole (L : LNum T) (hM : Cl M) {d : D} {lo hi : Int} : run T (k + 1) "is_whole" [.p d, .p (.int lo), .p (.int hi)] M = .ok (.p (.bool (wholeD d lo hi))) M := by
  rw [run_e L.is_whole _ _ _ rfl]
  cases d with
  | int i =>
    simp [c_is_whole, prim, isIntD, isBoolD, wholeD]
    by_cases h1 : lo ≤ i <;> by_cases h2 : i ≤ hi <;> simp [h1, h2, hM]
  | _ => simp [c_is_whole, prim, isIntD, isBoolD, wholeD, hM]
def gcdD : D → D → Bool
  | .int i, .int j => decide (i.natAbs.gcd j.natAbs = 1)
  | _, _ => false
/-- a fraction in lowest terms within bounds -/
def isFracD (d : D) (m b : Int) : Bool := match d with
  | .tuple [x, y] => wholeD x (-m) m && (wholeD y 1 b && gcdD x y)
  | _ => false
theorem r_fraction (L : LNum T) (hM : Cl M) {d : D} {m b : Int} (hb : b < 2 ^ 1000) : run T (k + 2) "is_fraction" [.p d, .p (.int m), .p (.int b)] M = .ok (.p (.bool (isFracD d m b))) M := by
  rw [run_e L.is_fraction _ _ _ rfl]
  have nt : isTupD d = false → isFracD d m b = false := fun h => by cases d <;> first | rfl | cases h
  cases ht : isTupD d with
  | false => simp [c_is_fraction, prim, ht, nt ht, hM]
  | true =>
    cases d with
    | tuple xs =>
      by_cases hl : xs.length = 2
      · match xs, hl with
        | [x, y], _ =>
          cases hx : wholeD x (-m) m with
          | false => simp [c_is_fraction, prim, isTupD, r_whole L hM, isFracD, hx, hM]
          | true =>
            cases hy : wholeD y 1 b with
            | false => simp [c_is_fraction, prim, isTupD, r_whole L hM, isFracD, hx, hy, hM]
            | true =>
              cases x with
              | int i =>
                cases y with
                | int j =>
                  have hy2 := hy
                  simp only [wholeD, decide_eq_true_eq] at hy2
                  obtain ⟨n, rfl⟩ : ∃ n : Nat, j = n := ⟨j.toNat, by omega⟩
                  have hn : n < 2 ^ 1000 := by omega
                  have e : (if i < 0 then -i else i) = ((i.natAbs : Nat) : Int) := by split <;> omega
                  have e1 : ((i.natAbs.gcd n : Nat) : Int) = 1 ↔ i.natAbs.gcd n = 1 := by omega
                  simp [c_is_fraction, isTupD, r_whole L hM, isFracD, hx, hy, hM, gcdD, e, r_divisor L hM hn, e1]
                | _ => cases hy
              | _ => cases hx
      · have hl' : ¬ ((xs.length : Int) = 2) := by omega
        have : isFracD (.tuple xs) m b = false := by
          match xs, hl with
          | [], _ => rfl
          | [_], _ => rfl
          | _ :: _ :: _ :: _, _ => rfl
        simp [c_is_fraction, prim, isTupD, hl', this, hM]
    | _ => cases ht
end
end VW
end
section
/-! What is a forest, what is an input: the defs of forests.py as plain functions of data. -/
namespace VW
open PySem
/-! ### small data -/
def smS (x : Str) : Bool := decide (x.length < 64) && okS x
mutual
def smD : D → Bool
  | .str x => smS x
  | .list xs => decide (xs.length ≤ 1000) && smL xs
  | .tuple xs => decide (xs.length ≤ 1000) && smL xs
  | .dict _ => false
  | .none => true
  | .bool _ => true
  | .int _ => true
def smL : List D → Bool
  | [] => true
  | x :: xs => smD x && smL xs
end
mutual
theorem sm_lay : ∀ d : D, smD d = true → d.canLay0 = true
  | .str x, h => by
    simp only [smD, smS, okS, SeqAt.shaped, Bool.and_eq_true] at h
    exact h.2.1
  | .list xs, h => by rw [smD, Bool.and_eq_true] at h; rw [PyData.canLay0]; exact smL_lay xs h.2
  | .tuple xs, h => by rw [smD, Bool.and_eq_true] at h; rw [PyData.canLay0]; exact smL_lay xs h.2
  | .dict _, h => by cases h
  | .none, h => rfl
  | .bool _, h => rfl
  | .int _, h => rfl
theorem smL_lay : ∀ ds : List D, smL ds = true → PyData.canLayAll0 ds = true
  | [], _ => rfl
  | x :: xs, h => by
    rw [smL, Bool.and_eq_true] at h
    rw [PyData.canLayAll0, sm_lay x h.1, smL_lay xs h.2]; rfl
end
theorem sm_len {xs : List D} (h : smD (.tuple xs) = true) : xs.length ≤ sizeLine := by
  rw [smD, Bool.and_eq_true, decide_eq_true_eq] at h
  rw [sizeLine_eq]; omega
theorem sm_shaped {d : D} (h : smD d = true) (hd : d.depth ≤ 64) : SeqAt.shaped d = true := by
  unfold SeqAt.shaped
  rw [sm_lay d h]
  simpa using hd
theorem smL_mem {ds : List D} (h : smL ds = true) {d : D} (hd : d ∈ ds) : smD d = true := by
  induction ds with
  | nil => cases hd
  | cons x xs ih =>
    rw [smL, Bool.and_eq_true] at h
    rcases List.mem_cons.mp hd with e | e
    · rw [e]; exact h.1
    · exact ih h.2 e
theorem dep_mem {ds : List D} {d : D} (hd : d ∈ ds) : d.depth ≤ PyData.depthAll ds := by
  induction ds with
  | nil => cases hd
  | cons x xs ih =>
    rw [PyData.depthAll]
    rcases List.mem_cons.mp hd with e | e
    · rw [e]; omega
    · have := ih e; omega
/-! ### marks -/
def places (x k : Str) : List Int := x.cps.toList.map fun c => Txt.find k ⟨#[c]⟩
def marksB (x k : Str) : Bool := !x.cps.toList.isEmpty && ((places x k).all (fun i => decide (0 ≤ i)) && decide (places x k = sortI (dedI (places x k))))
def areMarksD (d : D) (k : Str) : Bool := match d with
  | .str x => marksB x k
  | _ => false
theorem emp_iff (x : Str) : x = ("" : Str) ↔ x.cps.toList.isEmpty = true := by
  constructor
  · intro h; rw [h]; rfl
  · intro h
    obtain ⟨cps⟩ := x
    have : cps.toList = [] := by simpa using h
    have : cps = #[] := by simpa using this
    rw [this]; rfl
theorem foldl_min (ns : List Int) : ∀ x : Int, 0 ≤ ns.foldl min x ↔ (0 ≤ x ∧ ∀ n ∈ ns, 0 ≤ n) := by
  induction ns with
  | nil => intro x; simp
  | cons n ns ih =>
    intro x
    rw [List.foldl_cons, ih]
    simp only [List.mem_cons, forall_eq_or_imp]
    constructor
    · rintro ⟨h1, h2⟩; exact ⟨by omega, by omega, h2⟩
    · rintro ⟨h1, h2, h3⟩; exact ⟨by omega, h3⟩
theorem minI_nonneg {ns : List Int} (h : ns ≠ []) : ∃ m, minI ns = some m ∧ (decide (0 ≤ m)) = ns.all (fun i => decide (0 ≤ i)) := by
  match ns, h with
  | n :: ns, _ =>
    refine ⟨_, rfl, ?_⟩
    have := foldl_min ns n
    rw [Bool.eq_iff_iff]
    simp only [decide_eq_true_eq, List.all_cons, Bool.and_eq_true, List.all_eq_true]
    exact this
structure LFor (T : Tb) : Prop extends LNum T where
  are_marks : T.lookup ("are_marks" : Str) = some c_are_marks
  is_kind : T.lookup ("is_kind" : Str) = some c_is_kind
  are_votes : T.lookup ("are_votes" : Str) = some c_are_votes
  is_tree_of : T.lookup ("is_tree_of" : Str) = some c_is_tree_of
  count_of : T.lookup ("count_of" : Str) = some c_count_of
  is_small_tree : T.lookup ("is_small_tree" : Str) = some c_is_small_tree
  is_forest : T.lookup ("is_forest" : Str) = some c_is_forest
  need_forest : T.lookup ("need_forest" : Str) = some c_need_forest
section
variable {T : Tb} {k : Nat} {M : Mem}
theorem okS_e : okS "" = true := by decide +kernel
theorem r_marks (L : LFor T) (hM : Cl M) {d : D} {kd : Str} (hd : smD d = true) : run T (k + 1) "are_marks" [.p d, .p (.str kd)] M = .ok (.p (.bool (areMarksD d kd))) M := by
  rw [run_e L.are_marks _ _ _ rfl]
  cases d with
  | str x =>
    simp only [smD, smS, Bool.and_eq_true, decide_eq_true_eq] at hd
    by_cases he : x.cps.toList.isEmpty = true
    · have hx : x = "" := (emp_iff x).mpr he
      have heq : eqD (.str x) (.str "") = some true := by rw [eqD_ss hd.2 okS_e]; simp [hx]
      have hf : areMarksD (.str x) kd = false := by simp only [areMarksD, marksB, he]; rfl
      simp [c_are_marks, isStrD, heq, hf, hM]
    · have hx : ¬ x = "" := fun z => he ((emp_iff x).mp z)
      have hlc : ∀ (ρ : Env), ρ = [some (.p (.str x)), some (.p (.str kd)), none, none] → evE (run T k) (.lc (.nm 3) [3] .seq (.cons (.var 0) .nil) .nil (.met .find (.var 1) (.cons (.var 3) .nil))) ρ M = .ok (.p (.list ((places x kd).map .int))) M := fun ρ hρ => by
        subst hρ
        have e : (places x kd).map PyData.int = (signs x).map (fun d => match d with | .str c => PyData.int (Txt.find kd c) | d => d) := by
          simp [places, signs]
        rw [e]
        refine lc_map (us := [.p (.str x)]) (by simp) (by simp) (by simp) ?_ fun d hd => ⟨_, rfl, ?_⟩
        · simp only [signs, List.length_map, Array.length_toList]; rw [sz]; simp only [Str.length] at hd; omega
        · simp only [signs, List.mem_map] at hd
          obtain ⟨c, _, rfl⟩ := hd
          simp [wipeE, recvU, recv, meth]
      have hl : (places x kd).length < 64 := by
        simp only [places, List.length_map, Array.length_toList]
        simp only [Str.length] at hd; omega
      have hne : places x kd ≠ [] := by
        simp only [places, ne_eq, List.map_eq_nil_iff]
        intro z; rw [z] at he; exact he rfl
      obtain ⟨m, hm1, hm2⟩ := minI_nonneg hne
      have hlc' := hlc _ rfl
      have heq : eqD (.str x) (.str "") = some false := by rw [eqD_ss hd.2 okS_e]; simp [hx]
      have hf : areMarksD (.str x) kd = (decide (0 ≤ m) && decide (places x kd = sortI (dedI (places x kd)))) := by
        have : x.cps.toList.isEmpty = false := by simpa using he
        simp only [areMarksD, marksB, this, hm2]; rfl
      simp [c_are_marks, isStrD, heq, hlc', hM, hm1, hl, eqD_ll, hf]
      by_cases h0 : 0 ≤ m <;> simp [h0, hM]
  | _ => simp [c_are_marks, isStrD, areMarksD, hM]
end
end VW
end
section
/-! Forests. -/
namespace VW
open PySem
def LET : Str := "abcdefghijklmnopqrstuvwxyz"
def isKindD (d : D) : Bool := match d with
  | .str x => decide (x = "0") || (marksB x LET && (decide (2 ≤ x.length) && decide (x.length ≤ 4)))
  | _ => false
def areVotesD (d : D) (n : Int) : Bool := match d with
  | .tuple xs => decide ((xs.length : Int) = n) && xs.all (fun x => wholeD x (-9) 9)
  | _ => false
theorem ok0 : okS "0" = true := by decide +kernel
section
variable {T : Tb} {k : Nat} {M : Mem}
def strEq (d : D) (y : Str) : Bool := match d with
  | .str x => decide (x = y)
  | _ => false
theorem eqv_str (d : D) (y : Str) : PyData.eqv d (.str y) = strEq d y := by
  cases d with
  | str x => unfold PyData.eqv strEq; by_cases h : x = y <;> simp [h]
  | _ => simp [PyData.eqv, strEq]
theorem eqD_s {d : D} {y : Str} (hd : SeqAt.shaped d = true) (hy : okS y = true) : eqD d (.str y) = some (strEq d y) := by
  unfold okS at hy
  simp only [eqD, hd, hy, Bool.and_self, if_true, eqv_str]
theorem r_kind (L : LFor T) (hM : Cl M) {d : D} (hd : smD d = true) (hdp : d.depth ≤ 64) : run T (k + 2) "is_kind" [.p d] M = .ok (.p (.bool (isKindD d))) M := by
  rw [run_e L.is_kind _ _ _ rfl]
  have e := eqD_s (sm_shaped hd hdp) ok0
  have hm := r_marks (k := k) L hM (kd := "abcdefghijklmnopqrstuvwxyz") hd
  cases d with
  | str x =>
    simp only [smD, smS, Bool.and_eq_true, decide_eq_true_eq] at hd
    have hl : x.length ≤ sizeLine := by rw [sz]; omega
    simp only [strEq] at e
    by_cases h0 : x = "0"
    · have e : eqD (.str x) (.str "0") = some true := by rw [e]; simp [h0]
      have hf : isKindD (.str x) = true := by simp [isKindD, h0]
      simp [c_is_kind, e, hf, hM]
    · have e : eqD (.str x) (.str "0") = some false := by rw [e]; simp [h0]
      have hf : isKindD (.str x) = (marksB x LET && (decide (2 ≤ x.length) && decide (x.length ≤ 4))) := by simp [isKindD, h0]
      simp only [areMarksD] at hm
      have h2 : (2 : Int) ≤ (x.length : Int) ↔ 2 ≤ x.length := by omega
      have h4 : (x.length : Int) ≤ 4 ↔ x.length ≤ 4 := by omega
      have hlen : lenD (.str x) = some (x.length : Int) := by simp [lenD, hl]
      have hm' : run T (k + 1) "are_marks" [.p (.str x), .p (.str LET)] M = .ok (.p (.bool (marksB x LET))) M := hm
      rw [hf]
      cases hb : marksB x LET with
      | false =>
        rw [hb] at hm'
        simp [c_is_kind, e, hM, hm', LET] 
        simp [LET] at hm'
        simp [hm', hM]
      | true =>
        rw [hb] at hm'
        simp [LET] at hm'
        simp [c_is_kind, e, hM, hm', hlen, h2, h4]
        by_cases q1 : 2 ≤ x.length <;> simp [q1, hM]
  | _ => 
    simp only [areMarksD] at hm
    simp only [strEq] at e
    simp [c_is_kind, e, hM, hm, isKindD]
theorem all_map {α : Type} (xs : List α) (p : α → Bool) : (xs.map p).all id = xs.all p := by simp
theorem r_votes_ok (L : LFor T) (hM : Cl M) {d : D} {n : Int} (hd : smD d = true) : run T (k + 2) "are_votes" [.p d, .p (.int n)] M = .ok (.p (.bool (areVotesD d n))) M := by
  rw [run_e L.are_votes _ _ _ rfl]
  cases d with
  | tuple xs =>
    have hlc : evE (run T (k + 1)) (.lc (.nm 2) [2] .seq (.cons (.var 0) .nil) .nil (.call "is_whole" (.cons (.var 2) (.cons (.neg (.lit (.int 9))) (.cons (.lit (.int 9)) .nil))))) [some (.p (.tuple xs)), some (.p (.int n)), none] M = .ok (.p (.list ((xs.map (fun x => wholeD x (-9) 9)).map .bool))) M := by
      rw [List.map_map]
      refine lc_map (us := [.p (.tuple xs)]) (by simp) (by simp) (by simp) (sm_len hd) fun d hd => ⟨_, rfl, ?_⟩
      simp [wipeE, r_whole L.toLNum hM]
    have hf : areVotesD (.tuple xs) n = (decide ((xs.length : Int) = n) && (xs.map (fun x => wholeD x (-9) 9)).all id) := by simp only [areVotesD, all_map]
    rw [hf]
    simp only [c_are_votes, List.map_cons, List.map_nil, List.length_cons, List.length_nil, List.replicate, List.cons_append, List.nil_append]
    simp [isTupD, -List.map_map, hlc, hM]
    by_cases q : (xs.length : Int) = n
    · simp [q, hM]
      rw [Bool.eq_iff_iff]; simp
    · simp [q, hM]
  | _ => simp [c_are_votes, isTupD, areVotesD, hM]
end
end VW
end
section
/-! Trees and forests, as data. -/
namespace VW
open PySem
def testB (kinds : List Str) (l : Str) (p a : D) : Bool := match p with
  | .int i => (match kinds[i.toNat]? with
    | some k => if l = "below" then decide (k = "0") && isFracD a 99 4 else !decide (k = "0") && areMarksD a k
    | none => false)
  | _ => false
def isTreeD (kinds : List Str) (n : Int) : Nat → D → Bool
  | 0, _ => false
  | m + 1, .tuple [.str l, v] => decide (l = "leaf") && areVotesD v n
  | m + 1, .tuple [.str l, p, a, x, y] => (decide (l = "below") || decide (l = "among")) && (wholeD p 0 ((kinds.length : Int) - 1) && (testB kinds l p a && (isTreeD kinds n m x && isTreeD kinds n m y)))
  | _ + 1, _ => false
def kindsD (kinds : List Str) : D := .tuple (kinds.map .str)
theorem ixD_k (ks : List Str) (i : Int) : ixD (kindsD ks) (.int i) = L2.atI (ks.map PyData.str) i := rfl
theorem lenD_k (ks : List Str) : lenD (kindsD ks) = some (ks.length : Int) := by simp [kindsD]
theorem flat_any (x : D) (zs : List D) (h1 : flatD x = true) (h2 : zs.all flatD = true) : inD x (.tuple zs) = some (zs.any fun z => PyData.eqv z x) := by
  simp [inD, h1, h2]
theorem len25 (n : Nat) : inD (.int n) (.tuple [.int 2, .int 5]) = some (decide (n = 2 ∨ n = 5)) := by
  rw [flat_any _ _ rfl rfl]
  have e : ∀ a b : Int, PyData.eqv (.int a) (.int b) = decide (a = b) := fun a b => by unfold PyData.eqv; by_cases h : a = b <;> simp [h]
  simp only [List.any_cons, List.any_nil, e, Bool.or_false]
  rw [Option.some_inj, Bool.eq_iff_iff]
  simp only [Bool.or_eq_true, decide_eq_true_eq]
  omega
theorem twoW (l : Str) : inD (.str l) (.tuple [.str "below", .str "among"]) = some (decide (l = "below") || decide (l = "among")) := by
  rw [flat_any _ _ rfl rfl]
  have e : ∀ a b : Str, PyData.eqv (.str a) (.str b) = decide (b = a) := fun a b => by
    rw [eqv_str]
    exact decide_eq_decide.mpr ⟨Eq.symm, Eq.symm⟩
  simp only [List.any_cons, List.any_nil, e, Bool.or_false]
theorem okW : okS "leaf" = true ∧ okS "below" = true ∧ okS "among" = true := by decide +kernel
theorem bw : ¬ (("among" : Str) = "below") := by decide +kernel
theorem notStr {d : D} (h : isStrD d = false) : ∀ x, d ≠ .str x := fun x e => by rw [e] at h; cases h
theorem tree_none {kinds : List Str} {n : Int} {m : Nat} {xs : List D} (h : ¬ (xs.length = 2 ∨ xs.length = 5)) : isTreeD kinds n (m + 1) (.tuple xs) = false := by
  match xs with
  | [] => rfl
  | [a] => cases a <;> rfl
  | [_, _] => simp at h
  | [a, _, _] => cases a <;> rfl
  | [a, _, _, _] => cases a <;> rfl
  | [_, _, _, _, _] => simp at h
  | a :: _ :: _ :: _ :: _ :: _ :: _ => cases a <;> rfl
theorem tree_nostr {kinds : List Str} {n : Int} {m : Nat} {x : D} {xs : List D} (h : isStrD x = false) : isTreeD kinds n (m + 1) (.tuple (x :: xs)) = false := by
  cases x <;> first | cases h
  all_goals
    match xs with
    | [] => rfl
    | [_] => rfl
    | [_, _] => rfl
    | [_, _, _] => rfl
    | [_, _, _, _] => rfl
    | _ :: _ :: _ :: _ :: _ :: _ => rfl
section
variable {T : Tb} {k : Nat} {M : Mem}
theorem cut3 (a b c x y : D) : cut [a, b, c, x, y] (some 3) none = [x, y] := rfl
theorem kinds_at {kinds : List Str} {i : Int} (h0 : 0 ≤ i) (h1 : i ≤ (kinds.length : Int) - 1) : ∃ kd, kinds[i.toNat]? = some kd ∧ L2.atI (kinds.map PyData.str) i = some (.str kd) := by
  have h2 : i.toNat < kinds.length := by omega
  refine ⟨kinds[i.toNat], by rw [List.getElem?_eq_getElem h2], ?_⟩
  obtain ⟨j, rfl⟩ : ∃ j : Nat, i = j := ⟨i.toNat, by omega⟩
  rw [atI_nat _ _ (by simpa using h2)]
  simp at h2
  simp [h2]
theorem r_tree (L : LFor T) (hM : Cl M) {kinds : List Str} {n : Int} (hk : ∀ x ∈ kinds, smS x = true) : ∀ (m : Nat) (d : D), smD d = true →
    run T (k + m + 3) "is_tree_of" [.p d, .p (kindsD kinds), .p (.int n), .p (.int m)] M = .ok (.p (.bool (isTreeD kinds n m d))) M := by
  intro m
  induction m with
  | zero =>
    intro d hd
    rw [run_e L.is_tree_of _ _ _ rfl]
    cases ht : isTupD d with
    | false => simp [c_is_tree_of, ht, isTreeD, hM]
    | true => simp [c_is_tree_of, ht, isTreeD, hM]
  | succ m ih =>
    intro d hd
    rw [show k + (m + 1) + 3 = (k + m + 3) + 1 by omega, run_e L.is_tree_of _ _ _ rfl]
    have hm0 : ¬ ((m : Int) + 1 = 0) := by omega
    have hz2 : (2 : Nat) ≤ sizeLine := by rw [sz]; omega
    cases d with
    | tuple xs =>
      have in2 : inD (.int 2) (.tuple [.int 2, .int 5]) = some true := len25 2
      have in5 : inD (.int 5) (.tuple [.int 2, .int 5]) = some true := len25 5
      by_cases hlen : xs.length = 2 ∨ xs.length = 5
      · match xs, hlen with
        | [x, v], _ =>
          simp only [smD, smL, Bool.and_eq_true] at hd
          cases x with
          | str l =>
            have hs : smS l = true := hd.2.1
            simp only [smS, Bool.and_eq_true] at hs
            have hv : run T (k + m + 3) "are_votes" [.p v, .p (.int n)] M = _ := r_votes_ok (k := k + m + 1) L hM (d := v) (n := n) hd.2.2.1
            have e := eqD_ss hs.2 okW.1
            rw [isTreeD]
            generalize decide (l = "leaf") = b1 at e ⊢
            generalize areVotesD v n = b2 at hv ⊢
            cases b1 <;> simp [c_is_tree_of, isTupD, hm0, in2, isStrD, hM, hz2, e, hv]
          | _ => simp [c_is_tree_of, isTupD, hm0, in2, isStrD, hM, hz2, isTreeD]
        | [x, p, a, y, z], _ =>
          simp only [smD, smL, Bool.and_eq_true] at hd
          cases x with
          | str l =>
            have hs : smS l = true := hd.2.1
            simp only [smS, Bool.and_eq_true] at hs
            rw [isTreeD]
            have hin := twoW l
            have e1 := eqD_ss hs.2 okW.2.1
            have e2 := eqD_ss hs.2 okW.2.2
            have h12 : (decide (l = "below") && decide (l = "among")) = false := by
              by_cases q : l = "below"
              · rw [q]; decide +kernel
              · simp [q]
            have hwh : run T (k + m + 3) "is_whole" [.p p, .p (.int 0), .p (.int ((kinds.length : Int) - 1))] M = _ := r_whole (k := k + m + 2) L.toLNum hM (d := p) (lo := 0) (hi := (kinds.length : Int) - 1)
            by_cases hw : wholeD p 0 ((kinds.length : Int) - 1) = true
            · cases p with
              | int i =>
                have hw2 := hw
                simp only [wholeD, decide_eq_true_eq] at hw2
                obtain ⟨kd, hk1, hk2⟩ := kinds_at hw2.1 hw2.2
                have hkd : smS kd = true := hk kd (List.mem_of_getElem? hk1)
                simp only [smS, Bool.and_eq_true] at hkd
                have hlc : ∀ o : Option U, evE (run T (k + m + 3)) (.lc (.nm 5) [5] .seq (.cons (.sl (.var 0) (.cons (.lit (.int 3)) .nil) .nil) .nil) .nil (.call "is_tree_of" (.cons (.var 5) (.cons (.var 1) (.cons (.var 2) (.cons (.bin .sub (.var 3) (.lit (.int 1))) .nil)))))) [some (.p (.tuple [.str l, .int i, a, y, z])), some (.p (kindsD kinds)), some (.p (.int n)), some (.p (.int ((m : Int) + 1))), some (.p (.str kd)), o] M = .ok (.p (.list [.bool (isTreeD kinds n m y), .bool (isTreeD kinds n m z)])) M := fun o => by
                  have : [PyData.bool (isTreeD kinds n m y), PyData.bool (isTreeD kinds n m z)] = [y, z].map (fun d => PyData.bool (isTreeD kinds n m d)) := rfl
                  rw [this]
                  refine lc_map (us := [.p (.tuple [y, z])]) (by simp [slD, cut3, optI]) (by simp) (by simp) hz2 fun d hd' => ⟨_, rfl, ?_⟩
                  have hd2 : smD d = true := by
                    simp only [List.mem_cons, List.not_mem_nil, or_false] at hd'
                    rcases hd' with rfl | rfl
                    · exact hd.2.2.2.2.1
                    · exact hd.2.2.2.2.2.1
                  have := ih d hd2
                  simp [wipeE, this]
                have hfr : run T (k + m + 3) "is_fraction" [.p a, .p (.int 99), .p (.int 4)] M = _ := r_fraction (k := k + m + 1) L.toLNum hM (d := a) (m := 99) (b := 4) (by decide)
                have hmk : run T (k + m + 3) "are_marks" [.p a, .p (.str kd)] M = _ := r_marks (k := k + m + 2) L hM (d := a) (kd := kd) hd.2.2.2.1
                have e3 := eqD_ss hkd.2 ok0
                have ht : testB kinds l (.int i) a = if decide (l = "below") = true then decide (kd = "0") && isFracD a 99 4 else !decide (kd = "0") && areMarksD a kd := by
                  simp only [testB, hk1, decide_eq_true_eq]
                rw [ht, hw]
                rw [hw] at hwh
                have hka : L2.atI (kinds.map PyData.str) i = some (.str kd) := hk2
                generalize decide (l = "below") = b1 at e1 h12 hin ⊢
                generalize decide (l = "among") = b2 at e2 h12 hin ⊢
                generalize decide (kd = "0") = b3 at e3 ⊢
                generalize isFracD a 99 4 = b4 at hfr ⊢
                generalize areMarksD a kd = b5 at hmk ⊢
                generalize isTreeD kinds n m y = b6 at hlc ⊢
                generalize isTreeD kinds n m z = b7 at hlc ⊢
                have hal : ∀ x y : Bool, boolsD [.bool x, .bool y] = some [x, y] := fun _ _ => rfl
                cases b1 <;> cases b2 <;> cases b3 <;> cases b4 <;> cases b5 <;> first | (cases h12; done) | simp [c_is_tree_of, isTupD, hm0, in5, isStrD, hM, hz2, e1, e2, e3, hin, hwh, hfr, hmk, hlc, ixD_k, lenD_k, hka, hal]
              | _ => cases hw
            · have hw' : wholeD p 0 ((kinds.length : Int) - 1) = false := by simpa using hw
              rw [hw'] at hwh ⊢
              generalize decide (l = "below") = b1 at e1 h12 hin ⊢
              generalize decide (l = "among") = b2 at e2 h12 hin ⊢
              cases b1 <;> cases b2 <;> simp [c_is_tree_of, isTupD, hm0, in5, isStrD, hM, hz2, hin, hwh, lenD_k]
          | _ => simp [c_is_tree_of, isTupD, hm0, in5, isStrD, hM, hz2, isTreeD]
        | [], h => simp at h
        | [_], h => simp at h
        | [_, _, _], h => simp at h
        | [_, _, _, _], h => simp at h
        | _ :: _ :: _ :: _ :: _ :: _ :: _, h => simp at h
      · rw [tree_none hlen]
        have hi := len25 xs.length
        rw [decide_eq_false hlen] at hi
        simp [c_is_tree_of, isTupD, hm0, hi, hM, hz2]
    | _ => simp [c_is_tree_of, isTupD, isTreeD, hM]
end
end VW
end
section
/-! Forests, as data. -/
namespace VW
open PySem
def countD : Nat → D → Nat
  | 0, _ => 0
  | m + 1, .tuple [_, _, _, x, y] => countD m x + countD m y
  | _ + 1, _ => 1
def smallTreeD (kinds : List Str) (n : Int) (d : D) : Bool := isTreeD kinds n 8 d && decide (countD 8 d ≤ 8)
def restD (ks : List D) (a : D) (ts : List D) : Bool := match strsD ks, a with
  | some kinds, .int n => ts.all (smallTreeD kinds n)
  | _, _ => false
def treesD (ks : List D) (a t : D) : Bool := match t with
  | .tuple ts => decide (1 ≤ ts.length ∧ ts.length ≤ 4) && restD ks a ts
  | _ => false
def isForestD (d : D) : Bool := match d with
  | .tuple [.tuple ks, a, t] => (decide (1 ≤ ks.length ∧ ks.length ≤ 3) && (ks.all isKindD && wholeD a 2 3)) && treesD ks a t
  | _ => false
theorem tree_cases {kinds : List Str} {n : Int} {m : Nat} {d : D} (h : isTreeD kinds n (m + 1) d = true) : (∃ v, d = .tuple [.str "leaf", v] ∧ areVotesD v n = true) ∨ ∃ l p a x y, d = .tuple [.str l, p, a, x, y] ∧ (l = "below" ∨ l = "among") ∧ wholeD p 0 ((kinds.length : Int) - 1) = true ∧ testB kinds l p a = true ∧ isTreeD kinds n m x = true ∧ isTreeD kinds n m y = true := by
  unfold isTreeD at h
  split at h
  · rename_i heq; cases heq
  · rename_i l v heq
    simp only [Bool.and_eq_true, decide_eq_true_eq] at h
    exact .inl ⟨v, by rw [h.1], h.2⟩
  · rename_i m' l p a x y heq
    cases heq
    simp only [Bool.and_eq_true, Bool.or_eq_true, decide_eq_true_eq] at h
    exact .inr ⟨l, p, a, x, y, rfl, h.1, h.2.1, h.2.2.1, h.2.2.2.1, h.2.2.2.2⟩
  · cases h
theorem leafW : ¬ (("below" : Str) = "leaf") ∧ ¬ (("among" : Str) = "leaf") := by decide +kernel
section
variable {T : Tb} {k : Nat} {M : Mem}
theorem r_count (L : LFor T) (hM : Cl M) {kinds : List Str} {n : Int} : ∀ (m : Nat) (d : D), isTreeD kinds n m d = true → run T (k + m) "count_of" [.p d] M = .ok (.p (.int (countD m d))) M := by
  intro m
  induction m with
  | zero => intro d h; cases h
  | succ m ih =>
    intro d h
    rw [show k + (m + 1) = (k + m) + 1 by omega, run_e L.count_of _ _ _ rfl]
    rcases tree_cases h with ⟨v, rfl, _⟩ | ⟨l, p, a, x, y, rfl, hl, _, _, hx, hy⟩
    · have e : eqD (.str "leaf") (.str "leaf") = some true := by rw [eqD_ss okW.1 okW.1]; simp
      simp [c_count_of, e, hM, countD]
    · have e : eqD (.str l) (.str "leaf") = some false := by
        rcases hl with rfl | rfl
        · rw [eqD_ss okW.2.1 okW.1]; simp [leafW.1]
        · rw [eqD_ss okW.2.2 okW.1]; simp [leafW.2]
      simp [c_count_of, e, hM, countD, ih x hx, ih y hy]
theorem r_small (L : LFor T) (hM : Cl M) {kinds : List Str} {n : Int} {d : D} (hk : ∀ x ∈ kinds, smS x = true) (hd : smD d = true) : run T (k + 12) "is_small_tree" [.p d, .p (kindsD kinds), .p (.int n)] M = .ok (.p (.bool (smallTreeD kinds n d))) M := by
  rw [run_e L.is_small_tree _ _ _ rfl]
  have ht : run T (k + 11) "is_tree_of" [.p d, .p (kindsD kinds), .p (.int n), .p (.int 8)] M = _ := r_tree (k := k) L hM hk 8 d hd
  unfold smallTreeD
  cases hb : isTreeD kinds n 8 d with
  | false => rw [hb] at ht; simp [c_is_small_tree, ht, hM]
  | true =>
    rw [hb] at ht
    have hc : run T (k + 11) "count_of" [.p d] M = _ := r_count (k := k + 3) L hM 8 d hb
    have e : ((countD 8 d : Nat) : Int) ≤ 8 ↔ countD 8 d ≤ 8 := by omega
    simp [c_is_small_tree, ht, hc, hM, e]
theorem kind_strs : ∀ {ks : List D}, ks.all isKindD = true → ∃ kinds : List Str, ks = kinds.map .str ∧ strsD ks = some kinds
  | [], _ => ⟨[], rfl, rfl⟩
  | d :: ks, h => by
    rw [List.all_cons, Bool.and_eq_true] at h
    obtain ⟨kinds, h1, h2⟩ := kind_strs h.2
    cases d with
    | str x => exact ⟨x :: kinds, by rw [h1]; rfl, by rw [strsD, h2]; rfl⟩
    | _ => cases h.1
theorem r_forest (L : LFor T) (hM : Cl M) {d : D} (hd : smD d = true) (hdp : d.depth ≤ 64) : run T (k + 13) "is_forest" [.p d] M = .ok (.p (.bool (isForestD d))) M := by
  rw [run_e L.is_forest _ _ _ rfl]
  cases d with
  | tuple xs =>
    by_cases hl : xs.length = 3
    · match xs, hl with
      | [x, a, t], _ =>
        simp only [smD, smL, Bool.and_eq_true] at hd
        simp only [PyData.depth, PyData.depthAll] at hdp
        cases x with
        | tuple ks =>
          have hks := hd.2.1
          have hkl := sm_len hks
          simp only [PyData.depth] at hdp
          have hkd : ∀ d ∈ ks, run T (k + 12) "is_kind" [.p d] M = .ok (.p (.bool (isKindD d))) M := fun d hd' => by
            have h1 : smD d = true := by
              simp only [smD, Bool.and_eq_true] at hks
              exact smL_mem hks.2 hd'
            have h2 := dep_mem hd'
            exact r_kind (k := k + 10) L hM h1 (by omega)
          have hlc : ∀ o3 o4 o5 : Option U, evE (run T (k + 12)) (.lc (.nm 5) [5] .seq (.cons (.var 1) .nil) .nil (.call "is_kind" (.cons (.var 5) .nil))) [some (.p (.tuple [.tuple ks, a, t])), some (.p (.tuple ks)), o3, o4, o5, none] M = .ok (.p (.list ((ks.map isKindD).map .bool))) M := fun o3 o4 o5 => by
            rw [List.map_map]
            refine lc_map (us := [.p (.tuple ks)]) (by simp) (by simp) (by simp) hkl fun d hd' => ⟨_, rfl, ?_⟩
            simp [wipeE, hkd d hd']
          have hwh : run T (k + 12) "is_whole" [.p a, .p (.int 2), .p (.int 3)] M = _ := r_whole (k := k + 11) L.toLNum hM (d := a) (lo := 2) (hi := 3)
          have e1 : (1 : Int) ≤ (ks.length : Int) ↔ 1 ≤ ks.length := by omega
          have e3 : (ks.length : Int) ≤ 3 ↔ ks.length ≤ 3 := by omega
          have hall : ((ks.map isKindD).all id) = ks.all isKindD := all_map _ _
          by_cases hok : (decide (1 ≤ ks.length ∧ ks.length ≤ 3) && (ks.all isKindD && wholeD a 2 3)) = true
          · have hf : isForestD (.tuple [.tuple ks, a, t]) = treesD ks a t := by
              rw [isForestD, hok]; rfl
            rw [hf]
            simp only [Bool.and_eq_true, decide_eq_true_eq] at hok
            obtain ⟨⟨q1, q2⟩, q3, q4⟩ := hok
            rw [q4] at hwh
            rw [q3] at hall
            cases t with
            | tuple ts =>
              have hts := hd.2.2.2.1
              have htl := sm_len hts
              obtain ⟨kinds, g1, g2⟩ := kind_strs q3
              obtain ⟨n, rfl⟩ : ∃ n, a = .int n := by
                cases a with
                | int n => exact ⟨n, rfl⟩
                | _ => cases q4
              have hksm : ∀ x ∈ kinds, smS x = true := fun x hx => by
                simp only [smD, Bool.and_eq_true] at hks
                exact smL_mem hks.2 (d := .str x) (by rw [g1]; exact List.mem_map_of_mem hx)
              have hlc2 : ∀ o : Option U, evE (run T (k + 12)) (.lc (.nm 4) [4] .seq (.cons (.var 3) .nil) .nil (.call "is_small_tree" (.cons (.var 4) (.cons (.var 1) (.cons (.var 2) .nil))))) [some (.p (.tuple [.tuple ks, .int n, .tuple ts])), some (.p (.tuple ks)), some (.p (.int n)), some (.p (.tuple ts)), none, o] M = .ok (.p (.list ((ts.map (smallTreeD kinds n)).map .bool))) M := fun o => by
                rw [List.map_map]
                refine lc_map (us := [.p (.tuple ts)]) (by simp) (by simp) (by simp) htl fun d hd' => ⟨_, rfl, ?_⟩
                have h1 : smD d = true := by
                  simp only [smD, Bool.and_eq_true] at hts
                  exact smL_mem hts.2 hd'
                have := r_small (k := k) L hM (n := n) hksm h1
                rw [kindsD, ← g1] at this
                simp [wipeE, this]
              have hr : restD ks (.int n) ts = ((ts.map (smallTreeD kinds n)).all id) := by
                unfold restD
                rw [g2, all_map]
              have f1 : (1 : Int) ≤ (ts.length : Int) ↔ 1 ≤ ts.length := by omega
              have f4 : (ts.length : Int) ≤ 4 ↔ ts.length ≤ 4 := by omega
              rw [treesD, hr]
              simp only [c_is_forest, List.map_cons, List.map_nil, List.length_cons, List.length_nil, List.replicate, List.cons_append, List.nil_append]
              simp [-List.map_map, -List.all_map, isTupD, hM, put, setAll, hlc, hlc2, hwh, e1, e3, q1, q2, hall, f1, f4]
              by_cases p1 : 1 ≤ ts.length <;> by_cases p4 : ts.length ≤ 4 <;> simp [-List.map_map, -List.all_map, p1, p4, hM, hlc2]
              all_goals (intro z; omega)
            | _ => 
              simp only [c_is_forest, List.map_cons, List.map_nil, List.length_cons, List.length_nil, List.replicate, List.cons_append, List.nil_append]
              simp [-List.map_map, -List.all_map, isTupD, hM, put, setAll, hlc, hwh, e1, e3, q1, q2, hall, treesD]
          · have hf : isForestD (.tuple [.tuple ks, a, t]) = false := by
              rw [isForestD]
              have : (decide (1 ≤ ks.length ∧ ks.length ≤ 3) && (ks.all isKindD && wholeD a 2 3)) = false := by simpa using hok
              rw [this]; rfl
            rw [hf]
            generalize hb1 : ks.all isKindD = b1 at *
            generalize hb2 : wholeD a 2 3 = b2 at *
            simp only [c_is_forest, List.map_cons, List.map_nil, List.length_cons, List.length_nil, List.replicate, List.cons_append, List.nil_append]
            by_cases q1 : 1 ≤ ks.length <;> by_cases q2 : ks.length ≤ 3 <;> cases b1 <;> cases b2 <;> first | (exfalso; revert hok; simp [q1, q2]; done) | simp [-List.map_map, -List.all_map, isTupD, hM, put, setAll, hlc, hwh, e1, e3, q1, q2, hall]
        | _ => simp [c_is_forest, isTupD, isForestD, hM]
    · have hf : isForestD (.tuple xs) = false := by
        match xs, hl with
        | [], _ => rfl
        | [x], _ => cases x <;> rfl
        | [x, _], _ => cases x <;> rfl
        | x :: _ :: _ :: _ :: _, _ => cases x <;> rfl
      have h3 : ¬ ((xs.length : Int) = 3) := by omega
      rw [hf]
      simp [c_is_forest, isTupD, h3, hM]
  | _ => simp [c_is_forest, isTupD, isForestD, hM]
theorem r_need (L : LFor T) (hM : Cl M) {d : D} (hd : smD d = true) (hdp : d.depth ≤ 64) : run T (k + 14) "need_forest" [.p d] M = if isForestD d = true then .ok (.p .none) M else .exc "InvalidForest" M := by
  rw [run_e L.need_forest _ _ _ rfl]
  have := r_forest (k := k) L hM hd hdp
  cases hb : isForestD d <;> simp [c_need_forest, this, hb, hM]
end
end VW
end
section
/-! Trees, forests and inputs, typed. -/
namespace VW
open PySem
inductive Tr where
  | leaf (vs : List Int)
  | bel (p : Nat) (a b : Int) (l r : Tr)
  | amo (p : Nat) (m : Str) (l r : Tr)
def Tr.enc : Tr → D
  | .leaf vs => .tuple [.str "leaf", .tuple (vs.map .int)]
  | .bel p a b l r => .tuple [.str "below", .int p, fr a b, l.enc, r.enc]
  | .amo p m l r => .tuple [.str "among", .int p, .str m, l.enc, r.enc]
def Tr.depth : Tr → Nat
  | .leaf _ => 0
  | .bel _ _ _ l r => max l.depth r.depth + 1
  | .amo _ _ l r => max l.depth r.depth + 1
def Tr.leaves : Tr → Nat
  | .leaf _ => 1
  | .bel _ _ _ l r => l.leaves + r.leaves
  | .amo _ _ l r => l.leaves + r.leaves
/-- a place: a fraction in lowest terms -/
def okPl (a b : Int) : Bool := decide (-99 ≤ a ∧ a ≤ 99) && (decide (1 ≤ b ∧ b ≤ 4) && decide (a.natAbs.gcd b.natAbs = 1))
def okMk (kd m : Str) : Bool := !decide (kd = "0") && (marksB m kd && smS m)
def Tr.ok (kinds : List Str) (n : Nat) : Tr → Bool
  | .leaf vs => decide (vs.length = n) && vs.all (fun v => decide (-9 ≤ v ∧ v ≤ 9))
  | .bel p a b l r => decide (kinds[p]? = some ("0" : Str)) && (okPl a b && (l.ok kinds n && r.ok kinds n))
  | .amo p m l r => (match kinds[p]? with
    | some kd => okMk kd m
    | none => false) && (l.ok kinds n && r.ok kinds n)
theorem Tr.depth_lt : ∀ t : Tr, t.depth < t.leaves
  | .leaf _ => by simp [Tr.depth, Tr.leaves]
  | .bel _ _ _ l r => by have := l.depth_lt; have := r.depth_lt; simp only [Tr.depth, Tr.leaves]; omega
  | .amo _ _ l r => by have := l.depth_lt; have := r.depth_lt; simp only [Tr.depth, Tr.leaves]; omega
theorem ws : smS "leaf" = true ∧ smS "below" = true ∧ smS "among" = true := by decide +kernel
theorem sm_ints (vs : List Int) : smL (vs.map .int) = true := by
  induction vs with
  | nil => rfl
  | cons v vs ih => simp [smL, smD, ih]
theorem Tr.sm {kinds : List Str} {n : Nat} (hn : n ≤ 1000) : ∀ t : Tr, t.ok kinds n = true → smD t.enc = true
  | .leaf vs, h => by
    simp only [Tr.ok, Bool.and_eq_true, decide_eq_true_eq] at h
    simp [Tr.enc, smD, smL, ws.1, sm_ints, h.1, hn]
  | .bel p a b l r, h => by
    simp only [Tr.ok, Bool.and_eq_true] at h
    simp [Tr.enc, smD, smL, ws.2.1, l.sm hn h.2.2.1, r.sm hn h.2.2.2]
  | .amo p m l r, h => by
    simp only [Tr.ok, Bool.and_eq_true] at h
    obtain ⟨h1, h2, h3⟩ := h
    have hm : smS m = true := by
      split at h1
      · simp only [okMk, Bool.and_eq_true] at h1; exact h1.2.2
      · cases h1
    simp [Tr.enc, smD, smL, ws.2.2, hm, l.sm hn h2, r.sm hn h3]
theorem Tr.dep : ∀ t : Tr, t.enc.depth ≤ t.depth + 2
  | .leaf vs => by
    have := dep_ints vs
    simp only [Tr.enc, PyData.depth, PyData.depthAll, Tr.depth]
    omega
  | .bel p a b l r => by
    have := l.dep; have := r.dep
    simp only [Tr.enc, PyData.depth, PyData.depthAll, Tr.depth]
    omega
  | .amo p m l r => by
    have := l.dep; have := r.dep
    simp only [Tr.enc, PyData.depth, PyData.depthAll, Tr.depth]
    omega
theorem votes_ok {vs : List Int} {n : Nat} (h1 : vs.length = n) (h2 : vs.all (fun v => decide (-9 ≤ v ∧ v ≤ 9)) = true) : areVotesD (.tuple (vs.map .int)) n = true := by
  have : (vs.map PyData.int).all (fun x => wholeD x (-9) 9) = true := by
    rw [List.all_eq_true] at h2 ⊢
    intro x hx
    obtain ⟨v, hv, rfl⟩ := List.mem_map.mp hx
    exact h2 v hv
  unfold areVotesD
  simp only [this]
  simp [h1]
theorem Tr.isTree {kinds : List Str} {n : Nat} : ∀ (t : Tr) (m : Nat), t.ok kinds n = true → isTreeD kinds n m t.enc = decide (t.depth < m)
  | .leaf vs, 0, h => by simp [isTreeD]
  | .bel .., 0, h => by simp [isTreeD]
  | .amo .., 0, h => by simp [isTreeD]
  | .leaf vs, m + 1, h => by
    simp only [Tr.ok, Bool.and_eq_true, decide_eq_true_eq] at h
    simp [Tr.enc, isTreeD, votes_ok h.1 h.2, Tr.depth]
  | .bel p a b l r, m + 1, h => by
    simp only [Tr.ok, Bool.and_eq_true, decide_eq_true_eq] at h
    obtain ⟨h1, h2, h3, h4⟩ := h
    have hp : p < kinds.length := (List.getElem?_eq_some_iff.mp h1).1
    have hw : wholeD (.int p) 0 ((kinds.length : Int) - 1) = true := by simp [wholeD]; omega
    have ht : testB kinds "below" (.int p) (fr a b) = true := by
      simp only [testB, Int.toNat_natCast, h1, if_true]
      simpa [okPl, isFracD, wholeD, gcdD] using h2
    simp only [Tr.enc, isTreeD, hw, ht, Tr.isTree l m h3, Tr.isTree r m h4, Tr.depth]
    rw [Bool.eq_iff_iff]
    simp
    omega
  | .amo p mk l r, m + 1, h => by
    simp only [Tr.ok, Bool.and_eq_true] at h
    obtain ⟨h1, h3, h4⟩ := h
    split at h1
    · rename_i kd hk
      have hp : p < kinds.length := (List.getElem?_eq_some_iff.mp hk).1
      have hw : wholeD (.int p) 0 ((kinds.length : Int) - 1) = true := by simp [wholeD]; omega
      have ht : testB kinds "among" (.int p) (.str mk) = true := by
        simp only [testB, Int.toNat_natCast, hk, if_neg bw]
        simp only [okMk, Bool.and_eq_true] at h1
        simp only [areMarksD, Bool.and_eq_true]
        exact ⟨h1.1, h1.2.1⟩
      simp only [Tr.enc, isTreeD, hw, ht, Tr.isTree l m h3, Tr.isTree r m h4, Tr.depth]
      rw [Bool.eq_iff_iff]
      simp
      omega
    · cases h1
theorem Tr.countE {kinds : List Str} {n : Nat} : ∀ (t : Tr) (m : Nat), t.depth < m → countD m t.enc = t.leaves
  | t, 0, h => by omega
  | .leaf vs, m + 1, h => by simp [Tr.enc, countD, Tr.leaves]
  | .bel p a b l r, m + 1, h => by
    simp only [Tr.depth] at h
    simp [Tr.enc, countD, Tr.leaves, Tr.countE (kinds := kinds) (n := n) l m (by omega), Tr.countE (kinds := kinds) (n := n) r m (by omega)]
  | .amo p a l r, m + 1, h => by
    simp only [Tr.depth] at h
    simp [Tr.enc, countD, Tr.leaves, Tr.countE (kinds := kinds) (n := n) l m (by omega), Tr.countE (kinds := kinds) (n := n) r m (by omega)]
theorem Tr.small {kinds : List Str} {n : Nat} (t : Tr) (h : t.ok kinds n = true) : smallTreeD kinds n t.enc = decide (t.depth < 8 ∧ t.leaves ≤ 8) := by
  unfold smallTreeD
  rw [t.isTree 8 h]
  by_cases hd : t.depth < 8
  · rw [t.countE (kinds := kinds) (n := n) 8 hd]; simp [hd]
  · simp [hd]
/-- a forest -/
structure Fo where
  kinds : List Str
  n : Nat
  ts : List Tr
def Fo.enc (f : Fo) : D := .tuple [kindsD f.kinds, .int f.n, .tuple (f.ts.map Tr.enc)]
def okKind (k : Str) : Bool := smS k && isKindD (.str k)
structure Fo.Ok (f : Fo) : Prop where
  k1 : 1 ≤ f.kinds.length
  k3 : f.kinds.length ≤ 3
  kk : ∀ k ∈ f.kinds, okKind k = true
  n2 : 2 ≤ f.n
  n3 : f.n ≤ 3
  t1 : 1 ≤ f.ts.length
  t4 : f.ts.length ≤ 4
  tt : ∀ t ∈ f.ts, t.ok f.kinds f.n = true
  t8 : ∀ t ∈ f.ts, t.depth < 8 ∧ t.leaves ≤ 8
theorem sm_map {α : Type} {f : α → D} : ∀ {xs : List α}, (∀ x ∈ xs, smD (f x) = true) → smL (xs.map f) = true
  | [], _ => rfl
  | x :: xs, h => by
    rw [List.map_cons, smL, h x List.mem_cons_self, sm_map fun y hy => h y (List.mem_cons_of_mem _ hy)]; rfl
theorem dep_map {α : Type} {f : α → D} {m : Nat} : ∀ {xs : List α}, (∀ x ∈ xs, (f x).depth ≤ m) → PyData.depthAll (xs.map f) ≤ m
  | [], _ => by simp [PyData.depthAll]
  | x :: xs, h => by
    have h1 := h x List.mem_cons_self
    have h2 := dep_map fun y hy => h y (List.mem_cons_of_mem _ hy)
    simp only [List.map_cons, PyData.depthAll]; omega
theorem Fo.Ok.smK {f : Fo} (h : f.Ok) : ∀ k ∈ f.kinds, smS k = true := fun k hk => by
  have := h.kk k hk
  simp only [okKind, Bool.and_eq_true] at this
  exact this.1
theorem Fo.Ok.sm {f : Fo} (h : f.Ok) : smD f.enc = true := by
  have h1 : smL (f.kinds.map .str) = true := sm_map fun k hk => h.smK k hk
  have h2 : smL (f.ts.map Tr.enc) = true := sm_map fun t ht => t.sm (by have := h.n3; omega) (h.tt t ht)
  have := h.k3; have := h.t4
  simp [Fo.enc, kindsD, smD, smL, h1, h2]
  omega
theorem Fo.Ok.dep {f : Fo} (h : f.Ok) : f.enc.depth ≤ 12 := by
  have h1 : PyData.depthAll (f.kinds.map .str) ≤ 0 := dep_map fun k hk => by simp [PyData.depth]
  have h2 : PyData.depthAll (f.ts.map Tr.enc) ≤ 9 := dep_map fun t ht => by
    have := t.dep; have := (h.t8 t ht).1; omega
  simp only [Fo.enc, kindsD, PyData.depth, PyData.depthAll]
  omega
theorem Fo.Ok.is {f : Fo} (h : f.Ok) : isForestD f.enc = true := by
  have h1 : (f.kinds.map PyData.str).all isKindD = true := by
    rw [List.all_eq_true]
    intro x hx
    obtain ⟨k, hk, rfl⟩ := List.mem_map.mp hx
    have := h.kk k hk
    simp only [okKind, Bool.and_eq_true] at this
    exact this.2
  have h2 : wholeD (.int f.n) 2 3 = true := by have := h.n2; have := h.n3; simp [wholeD]; omega
  have h3 : restD (f.kinds.map .str) (.int f.n) (f.ts.map Tr.enc) = true := by
    unfold restD
    rw [strsD_map]
    simp only []
    rw [List.all_eq_true]
    intro x hx
    obtain ⟨t, ht, rfl⟩ := List.mem_map.mp hx
    rw [t.small (h.tt t ht)]
    simpa using h.t8 t ht
  unfold Fo.enc kindsD isForestD treesD
  simp only [h1, h2, h3, List.length_map]
  have := h.k1; have := h.k3; have := h.t1; have := h.t4
  simp; omega
/-! ### inputs -/
inductive Vl where
  | fr (a b : Int)
  | mk (x : Str)
def Vl.enc : Vl → D
  | .fr a b => VW.fr a b
  | .mk x => .str x
def bigN : Int := 1000000000000
def okFr (a b : Int) : Bool := decide (-bigN ≤ a ∧ a ≤ bigN) && (decide (1 ≤ b ∧ b ≤ bigN) && decide (a.natAbs.gcd b.natAbs = 1))
def Vl.ok (kd : Str) : Vl → Bool
  | .fr a b => decide (kd = "0") && okFr a b
  | .mk x => !decide (kd = "0") && (marksB x kd && (decide (x.length = 1) && smS x))
def okIn : List Str → List Vl → Bool
  | [], [] => true
  | k :: ks, v :: vs => v.ok k && okIn ks vs
  | _, _ => false
def inpD (vs : List Vl) : D := .tuple (vs.map Vl.enc)
/-- a value of a part, as data -/
def oneD : D → Bool
  | .str x => decide (x.length = 1)
  | _ => false
def valD (k : Str) (d : D) : Bool := if k = "0" then isFracD d bigN bigN else areMarksD d k && oneD d
def valsD : List Str → List D → Bool
  | [], [] => true
  | k :: ks, d :: ds => valD k d && valsD ks ds
  | _, _ => false
def isInputD (ks : List Str) : D → Bool
  | .tuple xs => valsD ks xs
  | _ => false
theorem Vl.valD {k : Str} {v : Vl} (h : v.ok k = true) : valD k v.enc = true := by
  cases v with
  | fr a b =>
    simp only [Vl.ok, Bool.and_eq_true, decide_eq_true_eq] at h
    unfold VW.valD
    rw [if_pos h.1]
    simpa [okFr, Vl.enc, isFracD, wholeD, gcdD] using h.2
  | mk x =>
    simp only [Vl.ok, Bool.and_eq_true, Bool.not_eq_true', decide_eq_false_iff_not] at h
    unfold VW.valD
    rw [if_neg h.1]
    simp [Vl.enc, areMarksD, oneD, h.2.1, h.2.2.1]
theorem okIn_vals : ∀ {ks : List Str} {vs : List Vl}, okIn ks vs = true → valsD ks (vs.map Vl.enc) = true
  | [], [], _ => rfl
  | k :: ks, v :: vs, h => by
    simp only [okIn, Bool.and_eq_true] at h
    simp [valsD, Vl.valD h.1, okIn_vals h.2]
  | [], _ :: _, h => by cases h
  | _ :: _, [], h => by cases h
theorem okIn_is {ks : List Str} {vs : List Vl} (h : okIn ks vs = true) : isInputD ks (inpD vs) = true := okIn_vals h
theorem okIn_len : ∀ {ks : List Str} {vs : List Vl}, okIn ks vs = true → vs.length = ks.length
  | [], [], _ => rfl
  | k :: ks, v :: vs, h => by
    simp only [okIn, Bool.and_eq_true] at h
    simp [okIn_len h.2]
  | [], _ :: _, h => by cases h
  | _ :: _, [], h => by cases h
theorem okIn_at : ∀ {ks : List Str} {vs : List Vl} {p : Nat} {k : Str}, okIn ks vs = true → ks[p]? = some k → ∃ v, vs[p]? = some v ∧ v.ok k = true
  | [], [], p, k, _, h => by simp at h
  | k :: ks, v :: vs, 0, k', h, hk => by
    simp only [okIn, Bool.and_eq_true] at h
    simp at hk
    exact ⟨v, by simp, by rw [← hk]; exact h.1⟩
  | k :: ks, v :: vs, p + 1, k', h, hk => by
    simp only [okIn, Bool.and_eq_true] at h
    obtain ⟨w, h1, h2⟩ := okIn_at h.2 (p := p) (by simpa using hk)
    exact ⟨w, by simpa using h1, h2⟩
  | [], _ :: _, _, _, h, _ => by cases h
  | _ :: _, [], _, _, h, _ => by cases h
theorem Vl.smE {k : Str} {v : Vl} (h : v.ok k = true) : smD v.enc = true := by
  cases v with
  | fr a b => rfl
  | mk x =>
    simp only [Vl.ok, Bool.and_eq_true] at h
    exact h.2.2.2
theorem okIn_sm {ks : List Str} {vs : List Vl} (h : okIn ks vs = true) (hl : ks.length ≤ 3) : smD (inpD vs) = true := by
  have h1 : smL (vs.map Vl.enc) = true := by
    clear hl
    induction vs generalizing ks with
    | nil => rfl
    | cons v vs ih =>
      cases ks with
      | nil => cases h
      | cons k ks =>
        simp only [okIn, Bool.and_eq_true] at h
        simp [smL, Vl.smE h.1, ih h.2]
  have := okIn_len h
  simp [inpD, smD, h1]; omega
end VW
end
section
/-! Inputs; the leaf to which an input comes; votes. -/
namespace VW
open PySem
theorem forF_chk {ok : Mem → Bool} {g : Tg} {b : Env → Mem → SR} {M : Mem} {P : Env → Prop} {t : D → Bool} {r : U} (hok : ok M = true) : ∀ (ds : List D) (ρ : Env), P ρ →
    (∀ ρ d, P ρ → d ∈ ds → ∃ ρ1, put g (.p d) ρ = some ρ1 ∧ (t d = true → ∃ ρ2, b ρ1 M = .next ρ2 M ∧ P ρ2) ∧ (t d = false → b ρ1 M = .ret r M)) →
    (ds.all t = true → ∃ ρ', forF ok g b (ds.map .p) ρ M = .next ρ' M ∧ P ρ') ∧ (ds.all t = false → forF ok g b (ds.map .p) ρ M = .ret r M)
  | [], ρ, hP, _ => ⟨fun _ => ⟨ρ, by simp [forF, hok], hP⟩, fun h => by simp at h⟩
  | d :: ds, ρ, hP, h => by
    obtain ⟨ρ1, h1, h2, h3⟩ := h ρ d hP List.mem_cons_self
    simp only [List.map_cons, forF, hok, if_true, h1, List.all_cons]
    cases ht : t d with
    | true =>
      obtain ⟨ρ2, h4, h5⟩ := h2 ht
      have ih := forF_chk hok ds ρ2 h5 fun ρ d hp hd => h ρ d hp (List.mem_cons_of_mem _ hd)
      simpa [h4] using ih
    | false => simp [h3 ht]
theorem pairUp_mem : ∀ {ds : List D} {i : Nat} {d : D}, d ∈ pairUp i ds → ∃ (j : Nat) (x : D), ds[j]? = some x ∧ d = .tuple [.int ((i + j : Nat) : Int), x]
  | [], i, d, h => by cases h
  | x :: ds, i, d, h => by
    simp only [pairUp, List.mem_cons] at h
    rcases h with rfl | h
    · exact ⟨0, x, by simp, by simp⟩
    · obtain ⟨j, y, h1, h2⟩ := pairUp_mem h
      exact ⟨j + 1, y, by simpa using h1, by rw [h2]; congr 3; simp; omega⟩
theorem pairUp_len2 : ∀ (ds : List D) (i : Nat), (pairUp i ds).length = ds.length
  | [], _ => rfl
  | _ :: ds, i => by simp [pairUp, pairUp_len2 ds]
theorem p12 : ((10 : Int) ^ 12) = bigN := by decide
theorem vals_len : ∀ {ks : List Str} {xs : List D}, valsD ks xs = true → xs.length = ks.length
  | [], [], _ => rfl
  | _ :: ks, _ :: xs, h => by
    simp only [valsD, Bool.and_eq_true] at h
    simp [vals_len h.2]
  | [], _ :: _, h => by cases h
  | _ :: _, [], h => by cases h
def chkAt (xs : List D) (d : D) : Bool := match d with
  | .tuple [.int i, .str k] => (match xs[i.toNat]? with
    | some x => valD k x
    | none => false)
  | _ => false
theorem vals_pair : ∀ (ks : List Str) (xs pre : List D), xs.length = ks.length → (pairUp pre.length (ks.map .str)).all (chkAt (pre ++ xs)) = valsD ks xs
  | [], [], pre, _ => by simp [pairUp, valsD]
  | k :: ks, x :: xs, pre, h => by
    have ih := vals_pair ks xs (pre ++ [x]) (by simpa using h)
    have e : pre ++ x :: xs = (pre ++ [x]) ++ xs := by simp
    simp only [List.map_cons, pairUp, List.all_cons, valsD]
    rw [e]
    have e2 : (pre ++ [x]).length = pre.length + 1 := by simp
    rw [e2] at ih
    rw [ih]
    congr 1
    simp [chkAt]
  | [], _ :: _, _, h => by cases h
  | _ :: _, [], _, h => by cases h
structure LInp (T : Tb) : Prop extends LFor T where
  is_input : T.lookup ("is_input" : Str) = some c_is_input
  need_input : T.lookup ("need_input" : Str) = some c_need_input
section
variable {T : Tb} {k : Nat} {M : Mem}
theorem r_input (L : LInp T) (hM : Cl M) {ks : List Str} {d : D} (hk : ∀ x ∈ ks, smS x = true) (hd : smD d = true) (hkl : ks.length ≤ 1000) : run T (k + 4) "is_input" [.p d, .p (kindsD ks)] M = .ok (.p (.bool (isInputD ks d))) M := by
  rw [run_e L.is_input _ _ _ rfl]
  cases d with
  | tuple xs =>
    by_cases hl : xs.length = ks.length
    · have hx : ∀ x ∈ xs, smD x = true := fun x hx => by
        simp only [smD, Bool.and_eq_true] at hd
        exact smL_mem hd.2 hx
      have hl' : (xs.length : Int) = (ks.length : Int) := by omega
      have key := forF_chk (M := M) (ok := fun M1 => stands M M1 [.p (kindsD ks)]) (g := .tp [2, 3]) (b := exL (run T (k + 3)) (.cons (.iff (.boo true (.cons (.cmp .eq (.var 3) (.lit (.str "0"))) (.cons (.nt (.call "is_fraction" (.cons (.ix (.var 0) (.var 2)) (.cons (.bin .pow (.lit (.int 10)) (.lit (.int 12))) (.cons (.bin .pow (.lit (.int 10)) (.lit (.int 12))) .nil))))) .nil))) (.cons (.ret (.lit (.bool false))) .nil) .nil) (.cons (.iff (.boo true (.cons (.cmp .ne (.var 3) (.lit (.str "0"))) (.cons (.boo false (.cons (.nt (.call "are_marks" (.cons (.ix (.var 0) (.var 2)) (.cons (.var 3) .nil)))) (.cons (.cmp .ne (.prim .len (.cons (.ix (.var 0) (.var 2)) .nil)) (.lit (.int 1))) .nil))) .nil))) (.cons (.ret (.lit (.bool false))) .nil) .nil) .nil)))
        (P := fun ρ => ∃ a b, ρ = [some (.p (.tuple xs)), some (.p (kindsD ks)), a, b]) (t := chkAt xs) (r := .p (.bool false)) (by simp) (pairUp 0 (ks.map .str)) [some (.p (.tuple xs)), some (.p (kindsD ks)), none, none] ⟨none, none, rfl⟩ ?_
      · rw [show chkAt xs = chkAt ([] ++ xs) by rfl, show (0 : Nat) = ([] : List D).length by rfl, vals_pair ks xs [] hl] at key
        have hw : walk M .enum [.p (kindsD ks)] = some ((pairUp 0 (ks.map .str)).map .p) := rfl
        have hi : isInputD ks (.tuple xs) = valsD ks xs := rfl
        rw [hi]
        simp only [c_is_input, List.map_cons, List.map_nil, List.length_cons, List.length_nil, List.replicate, List.cons_append, List.nil_append, x_cons, s_iff, s_for] at key ⊢
        cases hv : valsD ks xs with
        | true =>
          obtain ⟨ρ', h1, _⟩ := key.1 hv
          simp [isTupD, lenD_k, hl', hM, hw]
          simp at h1
          simp [h1, hM]
        | false =>
          have h1 := key.2 hv
          simp [isTupD, lenD_k, hl', hM, hw]
          simp at h1
          simp [h1, hM]
      · intro ρ d hP hd'
        obtain ⟨a, b, rfl⟩ := hP
        obtain ⟨j, y, hy, rfl⟩ := pairUp_mem hd'
        rw [List.getElem?_map] at hy
        cases hkj : ks[j]? with
        | none => rw [hkj] at hy; cases hy
        | some kd =>
          rw [hkj] at hy
          cases hy
          have hj : j < ks.length := (List.getElem?_eq_some_iff.mp hkj).1
          have hj' : j < xs.length := by omega
          have hxj : xs[j]? = some xs[j] := List.getElem?_eq_getElem hj'
          have hat : L2.atI xs (j : Int) = some xs[j] := by rw [atI_nat _ _ hj', hxj]
          have hsx := hx xs[j] (List.getElem_mem _)
          have hkd := hk kd (List.mem_of_getElem? hkj)
          simp only [smS, Bool.and_eq_true] at hkd
          have e0 := eqD_ss hkd.2 ok0
          have hfr : run T (k + 3) "is_fraction" [.p xs[j], .p (.int 1000000000000), .p (.int 1000000000000)] M = .ok (.p (.bool (isFracD xs[j] bigN bigN))) M := r_fraction (k := k + 1) L.toLNum hM (d := xs[j]) (m := bigN) (b := bigN) (by decide +kernel)
          have hmk : run T (k + 3) "are_marks" [.p xs[j], .p (.str kd)] M = _ := r_marks (k := k + 2) L.toLFor hM (d := xs[j]) (kd := kd) hsx
          have hp12 : (0 : Int) ≤ 12 ∧ (12 : Int) ≤ 1000 ∧ (10 : Int).natAbs < 2 ^ 64 := by decide
          have ep : (10 : Int) ^ (12 : Int).toNat = bigN := p12
          have hc : chkAt xs (.tuple [.int ((0 + j : Nat) : Int), .str kd]) = valD kd xs[j] := by simp [chkAt, hxj]
          refine ⟨[some (.p (.tuple xs)), some (.p (kindsD ks)), some (.p (.int ((0 + j : Nat) : Int))), some (.p (.str kd))], rfl, ?_⟩
          rw [hc]
          unfold valD
          by_cases hz : kd = "0"
          · rw [if_pos hz]
            have e0 : eqD (.str kd) (.str "0") = some true := by rw [e0, decide_eq_true hz]
            generalize isFracD xs[j] bigN bigN = bb at hfr ⊢
            cases bb <;> simp [e0, hat, hp12, ep, hfr]
          · rw [if_neg hz]
            have e0 : eqD (.str kd) (.str "0") = some false := by rw [e0, decide_eq_false hz]
            cases hm : areMarksD xs[j] kd with
            | false =>
              rw [hm] at hmk
              simp [e0, hat, hmk]
            | true =>
              rw [hm] at hmk
              cases hxx : xs[j] with
              | str z =>
                rw [hxx] at hat hmk hsx
                simp only [smD, smS, Bool.and_eq_true, decide_eq_true_eq] at hsx
                have hlz : lenD (.str z) = some (z.length : Int) := by
                  have : z.length ≤ sizeLine := by rw [sz]; omega
                  simp [lenD, this]
                have e1 : (z.length : Int) = 1 ↔ z.length = 1 := by omega
                by_cases h1 : z.length = 1 <;> simp [e0, hat, hmk, hlz, oneD, h1, e1]
              | _ => rw [hxx] at hm; cases hm
    · have hl' : ¬ ((xs.length : Int) = (ks.length : Int)) := by omega
      have hf : isInputD ks (.tuple xs) = false := by
        cases hv : isInputD ks (.tuple xs) with
        | false => rfl
        | true => exact absurd (vals_len hv) hl
      simp [c_is_input, isTupD, lenD_k, hl', hM, hf]
  | _ => simp [c_is_input, isTupD, isInputD, hM]
theorem r_needI (L : LInp T) (hM : Cl M) {f : Fo} (hf : f.Ok) {d : D} (hd : smD d = true) : run T (k + 15) "need_input" [.p f.enc, .p d] M = if isInputD f.kinds d = true then .ok (.p .none) M else .exc "InvalidInput" M := by
  rw [run_e L.need_input _ _ _ rfl]
  have h1 : run T (k + 14) "need_forest" [.p f.enc] M = _ := r_need (k := k) L.toLFor hM hf.sm (by have := hf.dep; omega)
  rw [hf.is, if_pos rfl] at h1
  have h2 : run T (k + 14) "is_input" [.p d, .p (kindsD f.kinds)] M = _ := r_input (k := k + 10) L hM hf.smK hd (by have := hf.k3; omega)
  have h3 : ixD f.enc (.int 0) = some (kindsD f.kinds) := by simp [Fo.enc]
  cases hb : isInputD f.kinds d <;> simp [c_need_input, h1, h2, h3, hb, hM]
theorem r_needI0 (L : LInp T) (hM : Cl M) {c d : D} (hc : smD c = true) (hdp : c.depth ≤ 64) (hf : isForestD c = false) : run T (k + 15) "need_input" [.p c, .p d] M = .exc "InvalidForest" M := by
  rw [run_e L.need_input _ _ _ rfl]
  have h1 : run T (k + 14) "need_forest" [.p c] M = _ := r_need (k := k) L.toLFor hM hc hdp
  rw [hf, if_neg (by decide)] at h1
  simp [c_need_input, h1, hM]
end
end VW
end
section
/-! Running: votes and answers. -/
namespace VW
open PySem
/-- y in x, texts -/
def hasS (x y : Str) : Bool := !(Builtin.Str.occurrences x y 0 x.length 1).isEmpty
theorem inD_ss (x y : Str) : inD (.str y) (.str x) = some (hasS x y) := rfl
/-- whether a test leads an input to its first tree -/
def Tr.first : Tr → List Vl → Bool
  | .leaf _, _ => false
  | .bel p a b _ _, xs => (match xs[p]? with
    | some (.fr c d) => decide (c * b < a * d)
    | _ => false)
  | .amo p m _ _, xs => (match xs[p]? with
    | some (.mk x) => hasS m x
    | _ => false)
def Tr.go (xs : List Vl) : Tr → List Int
  | .leaf vs => vs
  | .bel p a b l r => if (Tr.bel p a b l r).first xs then l.go xs else r.go xs
  | .amo p m l r => if (Tr.amo p m l r).first xs then l.go xs else r.go xs
/-- the way, as a text of 0 and 1 -/
def Tr.way (xs : List Vl) : Tr → List Bool
  | .leaf vs => []
  | .bel p a b l r => if (Tr.bel p a b l r).first xs then true :: l.way xs else false :: r.way xs
  | .amo p m l r => if (Tr.amo p m l r).first xs then true :: l.way xs else false :: r.way xs
def wayS (ws : List Bool) : Str := ⟨(ws.map fun b => if b then 48 else 49).toArray⟩
theorem Tr.go_len {kinds : List Str} {n : Nat} {xs : List Vl} : ∀ t : Tr, t.ok kinds n = true → (t.go xs).length = n
  | .leaf vs, h => by
    simp only [Tr.ok, Bool.and_eq_true, decide_eq_true_eq] at h
    exact h.1
  | .bel p a b l r, h => by
    simp only [Tr.ok, Bool.and_eq_true] at h
    simp only [Tr.go]
    split
    · exact l.go_len h.2.2.1
    · exact r.go_len h.2.2.2
  | .amo p m l r, h => by
    simp only [Tr.ok, Bool.and_eq_true] at h
    simp only [Tr.go]
    split
    · exact l.go_len h.2.1
    · exact r.go_len h.2.2
theorem mul64 {a b : Int} (h : a.natAbs < 2 ^ 64) : mulOk a b = true := by simp [mulOk, h]
theorem mul64r {a b : Int} (h : b.natAbs < 2 ^ 64) : mulOk a b = true := by simp [mulOk, h]
theorem big64 {a : Int} (h : -bigN ≤ a ∧ a ≤ bigN) : a.natAbs < 2 ^ 64 := by
  have e : (2 : Nat) ^ 64 = 18446744073709551616 := by decide
  rw [e]
  unfold bigN at h
  omega
structure LRun (T : Tb) : Prop extends LInp T where
  is_less : T.lookup ("is_less" : Str) = some c_is_less
  leaf_of : T.lookup ("leaf_of" : Str) = some c_leaf_of
  votes_of : T.lookup ("votes_of" : Str) = some c_votes_of
  first_greatest : T.lookup ("first_greatest" : Str) = some c_first_greatest
structure LLaw (T : Tb) : Prop where
  below : T.lookup ("_law_below" : Str) = some c_law_below
  leaf : T.lookup ("_law_leaf" : Str) = some c_law_leaf
  votes : T.lookup ("_law_votes" : Str) = some c_law_votes
section
variable {T : Tb} {k : Nat} {M : Mem}
theorem r_less (h : T.lookup ("is_less" : Str) = some c_is_less) (hM : Cl M) {a b c d : Int} (h1 : mulOk a d = true) (h2 : mulOk c b = true) : run T (k + 1) "is_less" [.p (fr a b), .p (fr c d)] M = .ok (.p (.bool (decide (a * d < c * b)))) M := by
  rw [run_e h _ _ _ rfl]
  simp [c_is_less, h1, h2, hM]
theorem r_lbelow (h : T.lookup ("_law_below" : Str) = some c_law_below) (hM : Cl M) {a b c d : Int} (h1 : mulOk a d = true) (h2 : mulOk c b = true) : run T (k + 1) "_law_below" [.p (fr a b), .p (fr c d)] M = .ok (.p (.bool (decide (a * d < c * b)))) M := by
  rw [run_e h _ _ _ rfl]
  simp [c_law_below, h1, h2, hM]
/-- the encoded leaf -/
theorem eq_lf : eqD (.str "leaf") (.str "leaf") = some true ∧ eqD (.str "below") (.str "leaf") = some false ∧ eqD (.str "among") (.str "leaf") = some false ∧ eqD (.str "below") (.str "below") = some true ∧ eqD (.str "among") (.str "below") = some false := by
  refine ⟨?_, ?_, ?_, ?_, ?_⟩
  · rw [eqD_ss okW.1 okW.1]; simp
  · rw [eqD_ss okW.2.1 okW.1]; simp [leafW.1]
  · rw [eqD_ss okW.2.2 okW.1]; simp [leafW.2]
  · rw [eqD_ss okW.2.1 okW.2.1]; simp
  · rw [eqD_ss okW.2.2 okW.2.1]; simp [bw]
theorem inp_at {vs : List Vl} {p : Nat} {v : Vl} (h : vs[p]? = some v) : L2.atI (vs.map Vl.enc) (p : Int) = some v.enc := by
  have hp : p < vs.length := (List.getElem?_eq_some_iff.mp h).1
  rw [atI_nat _ _ (by simpa using hp)]
  simp [h]
/-- what a test asks -/
theorem test_at {kinds : List Str} {n : Nat} {xs : List Vl} {p : Nat} {a b : Int} {l r : Tr} (hi : okIn kinds xs = true) (h : (Tr.bel p a b l r).ok kinds n = true) : ∃ c d, xs[p]? = some (.fr c d) ∧ mulOk c b = true ∧ mulOk a d = true ∧ l.ok kinds n = true ∧ r.ok kinds n = true := by
  simp only [Tr.ok, Bool.and_eq_true, decide_eq_true_eq] at h
  obtain ⟨v, h1, h2⟩ := okIn_at hi h.1
  cases v with
  | fr c d =>
    simp only [okPl, Bool.and_eq_true, decide_eq_true_eq] at h
    have e : (2 : Nat) ^ 64 = 18446744073709551616 := by decide
    refine ⟨c, d, h1, mul64r (by rw [e]; omega), mul64 (by rw [e]; omega), h.2.2.1, h.2.2.2⟩
  | mk x => simp [Vl.ok] at h2
theorem testM_at {kinds : List Str} {n : Nat} {xs : List Vl} {p : Nat} {m : Str} {l r : Tr} (hi : okIn kinds xs = true) (h : (Tr.amo p m l r).ok kinds n = true) : ∃ x, xs[p]? = some (.mk x) ∧ l.ok kinds n = true ∧ r.ok kinds n = true := by
  simp only [Tr.ok, Bool.and_eq_true] at h
  obtain ⟨h0, h2, h3⟩ := h
  split at h0
  · rename_i kd hk
    obtain ⟨v, h1, h4⟩ := okIn_at hi hk
    cases v with
    | mk x => exact ⟨x, h1, h2, h3⟩
    | fr c d =>
      simp only [okMk, Bool.and_eq_true, Bool.not_eq_true', decide_eq_false_iff_not] at h0
      simp only [Vl.ok, Bool.and_eq_true, decide_eq_true_eq] at h4
      exact absurd h4.1 h0.1
  · cases h0
def leafE (vs : List Int) : D := .tuple [.str "leaf", .tuple (vs.map .int)]
theorem r_leaf_of (L : LRun T) (hM : Cl M) {kinds : List Str} {n : Nat} {xs : List Vl} (hi : okIn kinds xs = true) {t : Tr} (ht : t.ok kinds n = true) (hd : t.depth < 1000) : run T (k + 2) "leaf_of" [.p t.enc, .p (inpD xs)] M = .ok (.p (leafE (t.go xs))) M := by
  rw [run_e L.leaf_of _ _ _ rfl]
  simp only [c_leaf_of, List.map_cons, List.map_nil, List.length_cons, List.length_nil, Nat.reduceAdd, Nat.reduceSub, List.replicate, List.cons_append, List.nil_append, x_cons, s_whl]
  generalize hb : (exL (run T (k + 1)) (CSs.cons (CS.iff _ _ _) CSs.nil) : Env → Mem → SR) = b
  generalize hc : (evE (run T (k + 1)) (CE.cmp CO.ne _ _) : Env → Mem → R U) = c
  have key : ∀ (t : Tr) (m : Nat), t.ok kinds n = true → t.depth < m → whileF c b m [some (.p t.enc), some (.p (inpD xs))] M = .next [some (.p (leafE (t.go xs))), some (.p (inpD xs))] M := by
    intro t
    induction t with
    | leaf vs =>
      intro m h hm
      obtain ⟨m, rfl⟩ : ∃ m', m = m' + 1 := ⟨m - 1, by omega⟩
      rw [while_s, ← hc]
      simp [Tr.enc, eq_lf, Tr.go, leafE]
    | bel p a b' l r ihl ihr =>
      intro m h hm
      obtain ⟨m, rfl⟩ : ∃ m', m = m' + 1 := ⟨m - 1, by simp only [Tr.depth] at hm; omega⟩
      simp only [Tr.depth] at hm
      obtain ⟨cc, d, h1, h2, h3, h4, h5⟩ := test_at hi h
      have hat := inp_at h1
      have hls := r_less (k := k) (T := T) (M := M) L.is_less hM (a := cc) (b := d) (c := a) (d := b') h2 h3
      have hstep : b [some (.p (Tr.bel p a b' l r).enc), some (.p (inpD xs))] M = .next [some (.p (if cc * b' < a * d then l.enc else r.enc)), some (.p (inpD xs))] M := by
        rw [← hb]
        by_cases hlt : cc * b' < a * d <;> simp [Tr.enc, eq_lf, inpD, hat, Vl.enc, hls, hlt]
      have hcond : c [some (.p (Tr.bel p a b' l r).enc), some (.p (inpD xs))] M = .ok (.p (.bool true)) M := by
        rw [← hc]; simp [Tr.enc, eq_lf]
      have hfirst : (Tr.bel p a b' l r).first xs = decide (cc * b' < a * d) := by simp [Tr.first, h1]
      rw [while_s, hcond]
      simp only [thn_okE, brU_b, if_true, hstep, sbind_next, Tr.go, hfirst]
      by_cases hlt : cc * b' < a * d
      · simp only [hlt, if_true, decide_true]; exact ihl m h4 (by omega)
      · simp only [hlt, if_false, decide_false, Bool.false_eq_true]; exact ihr m h5 (by omega)
    | amo p mk l r ihl ihr =>
      intro m h hm
      obtain ⟨m, rfl⟩ : ∃ m', m = m' + 1 := ⟨m - 1, by simp only [Tr.depth] at hm; omega⟩
      simp only [Tr.depth] at hm
      obtain ⟨x, h1, h4, h5⟩ := testM_at hi h
      have hat := inp_at h1
      have hstep : b [some (.p (Tr.amo p mk l r).enc), some (.p (inpD xs))] M = .next [some (.p (if hasS mk x = true then l.enc else r.enc)), some (.p (inpD xs))] M := by
        rw [← hb]
        by_cases hlt : hasS mk x = true <;> simp [Tr.enc, eq_lf, inpD, hat, Vl.enc, inD_ss, hlt]
      have hcond : c [some (.p (Tr.amo p mk l r).enc), some (.p (inpD xs))] M = .ok (.p (.bool true)) M := by
        rw [← hc]; simp [Tr.enc, eq_lf]
      have hfirst : (Tr.amo p mk l r).first xs = hasS mk x := by simp [Tr.first, h1]
      rw [while_s, hcond]
      simp only [thn_okE, brU_b, if_true, hstep, sbind_next, Tr.go, hfirst]
      by_cases hlt : hasS mk x = true
      · simp only [hlt, if_true]; exact ihl m h4 (by omega)
      · simp only [hlt, if_false]; exact ihr m h5 (by omega)
  rw [key t 1000000 ht (by omega)]
  simp [hM]
/-- the law's own: votes of the leaf and the way -/
theorem way_app (a b : List Bool) : wayS (a ++ b) = wayS a ++ wayS b := by
  show _ = Str.append _ _
  simp [wayS, Str.append]
theorem way_1 : ("0" : Str) = wayS [true] ∧ ("1" : Str) = wayS [false] ∧ ("" : Str) = wayS [] := by decide +kernel
theorem way_len (a : List Bool) : (wayS a).length = a.length := by simp [wayS, Str.length]
theorem r_lleaf (L : LLaw T) (hM : Cl M) {kinds : List Str} {n : Nat} {xs : List Vl} (hi : okIn kinds xs = true) {t : Tr} (ht : t.ok kinds n = true) (hd : t.depth < 1000) : run T (k + 2) "_law_leaf" [.p t.enc, .p (inpD xs)] M = .ok (.p (.tuple [.tuple ((t.go xs).map .int), .str (wayS (t.way xs))])) M := by
  rw [run_e L.leaf _ _ _ rfl]
  simp only [c_law_leaf, List.map_cons, List.map_nil, List.length_cons, List.length_nil, Nat.reduceAdd, Nat.reduceSub, List.replicate, List.cons_append, List.nil_append, x_cons, s_whl]
  generalize hb : (exL (run T (k + 1)) (CSs.cons (CS.iff _ _ _) _) : Env → Mem → SR) = b
  generalize hc : (evE (run T (k + 1)) (CE.cmp CO.ne _ _) : Env → Mem → R U) = c
  have key : ∀ (t : Tr) (m : Nat) (w : List Bool) (o : Option U), t.ok kinds n = true → t.depth < m → w.length + t.depth < 2000 → ∃ o', whileF c b m [some (.p t.enc), some (.p (inpD xs)), some (.p (.str (wayS w))), o] M = .next [some (.p (leafE (t.go xs))), some (.p (inpD xs)), some (.p (.str (wayS (w ++ t.way xs)))), o'] M := by
    intro t
    induction t with
    | leaf vs =>
      intro m w o h hm hw
      obtain ⟨m, rfl⟩ : ∃ m', m = m' + 1 := ⟨m - 1, by omega⟩
      refine ⟨o, ?_⟩
      rw [while_s, ← hc]
      simp [Tr.enc, eq_lf, Tr.go, leafE, Tr.way]
    | bel p a b' l r ihl ihr =>
      intro m w o h hm hw
      obtain ⟨m, rfl⟩ : ∃ m', m = m' + 1 := ⟨m - 1, by simp only [Tr.depth] at hm; omega⟩
      simp only [Tr.depth] at hm hw
      obtain ⟨cc, d, h1, h2, h3, h4, h5⟩ := test_at hi h
      have hat := inp_at h1
      have hls := r_lbelow (k := k) (T := T) (M := M) L.below hM (a := cc) (b := d) (c := a) (d := b') h2 h3
      have hsz : (wayS w).length + 1 ≤ sizeLine := by rw [way_len, sz]; omega
      have hst : ∀ bb : Bool, hsz = hsz → (wayS w).length + (wayS [bb]).length ≤ sizeLine := fun bb _ => by rw [way_len [bb]]; exact hsz
      have hstep : b [some (.p (Tr.bel p a b' l r).enc), some (.p (inpD xs)), some (.p (.str (wayS w))), o] M = .next [some (.p (if cc * b' < a * d then l.enc else r.enc)), some (.p (inpD xs)), some (.p (.str (wayS (w ++ [decide (cc * b' < a * d)])))), some (.p (.bool (decide (cc * b' < a * d))))] M := by
        rw [← hb]
        by_cases hlt : cc * b' < a * d <;> simp [Tr.enc, eq_lf, inpD, hat, Vl.enc, hls, hlt, way_1.1, way_1.2.1, hst _ rfl, way_app]
      have hcond : c [some (.p (Tr.bel p a b' l r).enc), some (.p (inpD xs)), some (.p (.str (wayS w))), o] M = .ok (.p (.bool true)) M := by
        rw [← hc]; simp [Tr.enc, eq_lf]
      have hfirst : (Tr.bel p a b' l r).first xs = decide (cc * b' < a * d) := by simp [Tr.first, h1]
      rw [while_s, hcond]
      simp only [thn_okE, brU_b, if_true, hstep, sbind_next, Tr.go, Tr.way, hfirst]
      by_cases hlt : cc * b' < a * d
      · simp only [hlt, if_true, decide_true]
        obtain ⟨o', e⟩ := ihl m (w ++ [true]) (some (.p (.bool true))) h4 (by omega) (by simp; omega)
        exact ⟨o', by rw [e]; simp⟩
      · simp only [hlt, if_false, decide_false, Bool.false_eq_true]
        obtain ⟨o', e⟩ := ihr m (w ++ [false]) (some (.p (.bool false))) h5 (by omega) (by simp; omega)
        exact ⟨o', by rw [e]; simp⟩
    | amo p mk l r ihl ihr =>
      intro m w o h hm hw
      obtain ⟨m, rfl⟩ : ∃ m', m = m' + 1 := ⟨m - 1, by simp only [Tr.depth] at hm; omega⟩
      simp only [Tr.depth] at hm hw
      obtain ⟨x, h1, h4, h5⟩ := testM_at hi h
      have hat := inp_at h1
      have hsz : (wayS w).length + 1 ≤ sizeLine := by rw [way_len, sz]; omega
      have hst : ∀ bb : Bool, hsz = hsz → (wayS w).length + (wayS [bb]).length ≤ sizeLine := fun bb _ => by rw [way_len [bb]]; exact hsz
      have hstep : b [some (.p (Tr.amo p mk l r).enc), some (.p (inpD xs)), some (.p (.str (wayS w))), o] M = .next [some (.p (if hasS mk x = true then l.enc else r.enc)), some (.p (inpD xs)), some (.p (.str (wayS (w ++ [hasS mk x])))), some (.p (.bool (hasS mk x)))] M := by
        rw [← hb]
        by_cases hlt : hasS mk x = true <;> simp [Tr.enc, eq_lf, inpD, hat, Vl.enc, inD_ss, hlt, way_1.1, way_1.2.1, hst _ rfl, way_app]
      have hcond : c [some (.p (Tr.amo p mk l r).enc), some (.p (inpD xs)), some (.p (.str (wayS w))), o] M = .ok (.p (.bool true)) M := by
        rw [← hc]; simp [Tr.enc, eq_lf]
      have hfirst : (Tr.amo p mk l r).first xs = hasS mk x := by simp [Tr.first, h1]
      rw [while_s, hcond]
      simp only [thn_okE, brU_b, if_true, hstep, sbind_next, Tr.go, Tr.way, hfirst]
      by_cases hlt : hasS mk x = true
      · simp only [hlt, if_true]
        obtain ⟨o', e⟩ := ihl m (w ++ [true]) (some (.p (.bool true))) h4 (by omega) (by simp; omega)
        exact ⟨o', by rw [e]; simp⟩
      · have hlt' : hasS mk x = false := by simpa using hlt
        simp only [hlt', if_false, Bool.false_eq_true]
        obtain ⟨o', e⟩ := ihr m (w ++ [false]) (some (.p (.bool false))) h5 (by omega) (by simp; omega)
        exact ⟨o', by rw [e]; simp⟩
  obtain ⟨o', e⟩ := key t 1000000 [] none ht (by omega) (by simp; omega)
  have hz2 : (2 : Nat) ≤ sizeLine := by rw [sz]; omega
  simp [way_1.2.2, e, hM, leafE, hz2]
end
end VW
end
section
/-! Comprehensions over typed lists; votes and answers. -/
namespace VW
open PySem
theorem gather_mapA {α : Type} {f : U → Mem → R (Option U)} {M : Mem} {e h : α → U} : ∀ (xs : List α) (acc : List U), (∀ x ∈ xs, f (e x) M = .ok (some (h x)) M) → acc.length + xs.length ≤ sizeLine → gather f (xs.map e) acc M = .ok (acc ++ xs.map h) M
  | [], acc, _, _ => by simp [gather]
  | x :: xs, acc, hx, hl => by
    simp only [List.length_cons] at hl
    have hl' : acc.length < sizeLine := by omega
    simp only [List.map_cons, gather, hx x List.mem_cons_self, bind_okE, hl', if_true]
    rw [gather_mapA xs (acc ++ [h x]) (fun y hy => hx y (List.mem_cons_of_mem _ hy)) (by simp; omega)]
    simp
theorem gather_filterA {α : Type} {f : U → Mem → R (Option U)} {M : Mem} {e h : α → U} {t : α → Bool} : ∀ (xs : List α) (acc : List U), (∀ x ∈ xs, f (e x) M = .ok (if t x then some (h x) else none) M) → acc.length + xs.length ≤ sizeLine → gather f (xs.map e) acc M = .ok (acc ++ (xs.filter t).map h) M
  | [], acc, _, _ => by simp [gather]
  | x :: xs, acc, hx, hl => by
    simp only [List.length_cons] at hl
    have hl' : acc.length < sizeLine := by omega
    simp only [List.map_cons, gather, hx x List.mem_cons_self, bind_okE]
    cases ht : t x with
    | false =>
      simp only [Bool.false_eq_true, if_false, List.filter_cons, ht]
      exact gather_filterA xs acc (fun y hy => hx y (List.mem_cons_of_mem _ hy)) (by omega)
    | true =>
      simp only [if_true, hl', List.filter_cons, ht, List.map_cons]
      rw [gather_filterA xs (acc ++ [h x]) (fun y hy => hx y (List.mem_cons_of_mem _ hy)) (by simp; omega)]
      simp
section
variable {Φ : Fn} {ρ : Env} {M : Mem} {g : Tg} {own : List Nat} {it : IT} {src : CEs} {elt c : CE} {us : List U}
theorem lc_mapA {α : Type} {as : List α} {e h : α → D} (hs : evL Φ src ρ M = .ok us M) (hw : walk M it us = some ((as.map e).map .p)) (hst : stands M M us = true) (hl : as.length ≤ sizeLine) (hx : ∀ a ∈ as, ∃ ρ1, put g (.p (e a)) (wipeE ρ own) = some ρ1 ∧ evE Φ elt ρ1 M = .ok (.p (h a)) M) :
    evE Φ (.lc g own it src .nil elt) ρ M = .ok (.p (.list (as.map h))) M := by
  simp only [evE, hs, bind_okE, hw, List.map_map]
  rw [gather_mapA (e := U.p ∘ e) (h := U.p ∘ h) as []]
  · simp only [bind_okE, hst, if_true, List.nil_append]
    rw [← List.map_map, mkL_map]; rfl
  · intro a ha
    obtain ⟨ρ1, h1, h2⟩ := hx a ha
    simp [h1, hst, h2]
  · simpa using hl
theorem lc_filterA {α : Type} {as : List α} {e h : α → D} {t : α → Bool} (hs : evL Φ src ρ M = .ok us M) (hw : walk M it us = some ((as.map e).map .p)) (hst : stands M M us = true) (hl : as.length ≤ sizeLine) (hx : ∀ a ∈ as, ∃ ρ1, put g (.p (e a)) (wipeE ρ own) = some ρ1 ∧ evE Φ c ρ1 M = .ok (.p (.bool (t a))) M ∧ (t a = true → evE Φ elt ρ1 M = .ok (.p (h a)) M)) :
    evE Φ (.lc g own it src (.cons c .nil) elt) ρ M = .ok (.p (.list ((as.filter t).map h))) M := by
  simp only [evE, hs, bind_okE, hw, List.map_map]
  rw [gather_filterA (e := U.p ∘ e) (h := U.p ∘ h) (t := t) as []]
  · simp only [bind_okE, hst, if_true, List.nil_append]
    rw [← List.map_map, mkL_map]; rfl
  · intro a ha
    obtain ⟨ρ1, h1, h2, h3⟩ := hx a ha
    simp only [Function.comp, h1, hst, if_true, b_and, b_nil, h2, bind_okE, brU_b]
    cases ht : t a with
    | false => simp
    | true => simp [h3 ht]
  · simpa using hl
end
/-! ### votes -/
def votesF (ts : List Tr) (n : Nat) (xs : List Vl) : List Int := (List.range n).map fun j => (ts.map fun t => (t.go xs).getD j 0).sum
def Fo.votes (f : Fo) (xs : List Vl) : List Int := votesF f.ts f.n xs
theorem votesF_len (ts : List Tr) (n : Nat) (xs : List Vl) : (votesF ts n xs).length = n := by simp [votesF]
section
variable {T : Tb} {k : Nat} {M : Mem}
theorem up_map (n : Nat) : up 0 n = (List.range n).map fun j => PyData.int (j : Nat) := by
  unfold up
  refine List.map_congr_left fun i _ => by simp
theorem Fo.Ok.dep1000 {f : Fo} (h : f.Ok) : ∀ t ∈ f.ts, t.depth < 1000 := fun t ht => by have := (h.t8 t ht).1; omega
/-- what running a forest needs: less than a forest is asked -/
structure Fo.Ru (f : Fo) : Prop where
  n2 : 2 ≤ f.n
  n3 : f.n ≤ 3
  t4 : f.ts.length ≤ 1000
  tt : ∀ t ∈ f.ts, t.ok f.kinds f.n = true
  dp : ∀ t ∈ f.ts, t.depth < 1000
theorem Fo.Ok.ru {f : Fo} (h : f.Ok) : f.Ru := ⟨h.n2, h.n3, by have := h.t4; omega, h.tt, h.dep1000⟩
theorem r_votes_of (L : LRun T) (hM : Cl M) {f : Fo} (hf : f.Ru) {xs : List Vl} (hi : okIn f.kinds xs = true) : run T (k + 3) "votes_of" [.p f.enc, .p (inpD xs)] M = .ok (.p (.tuple ((f.votes xs).map .int))) M := by
  rw [run_e L.votes_of _ _ _ rfl]
  have hn := hf.n3; have ht4 := hf.t4
  have lc1 : evE (run T (k + 2)) (.lc (.nm 3) [3] .seq (.cons (.ix (.var 0) (.lit (.int 2))) .nil) .nil (.ix (.call "leaf_of" (.cons (.var 3) (.cons (.var 1) .nil))) (.lit (.int 1)))) [some (.p f.enc), some (.p (inpD xs)), none, none, none, none] M = .ok (.p (.list (f.ts.map fun t => .tuple ((t.go xs).map .int)))) M := by
    refine lc_mapA (e := Tr.enc) (us := [.p (.tuple (f.ts.map Tr.enc))]) (by simp [Fo.enc]) (by simp) (by simp) (by rw [sz]; omega) fun t ht => ⟨_, rfl, ?_⟩
    have := r_leaf_of (k := k) L hM hi (hf.tt t ht) (hf.dp t ht)
    simp [wipeE, this, leafE]
  have lc2 : ∀ j : Nat, j < f.n → ∀ o : Option U, evE (run T (k + 2)) (.lc (.nm 5) [5] .seq (.cons (.var 2) .nil) .nil (.ix (.var 5) (.var 4))) [some (.p f.enc), some (.p (inpD xs)), some (.p (.list (f.ts.map fun t => .tuple ((t.go xs).map .int)))), none, some (.p (.int j)), o] M = .ok (.p (.list ((f.ts.map fun t => (t.go xs).getD j 0).map .int))) M := fun j hj o => by
    rw [List.map_map]
    refine lc_mapA (e := fun t : Tr => PyData.tuple ((t.go xs).map .int)) (us := [.p (.list (f.ts.map fun t => .tuple ((t.go xs).map .int)))]) (by simp) (by simp) (by simp) (by rw [sz]; omega) fun t ht => ⟨_, rfl, ?_⟩
    have hl : j < (t.go xs).length := by rw [t.go_len (hf.tt t ht)]; exact hj
    have : L2.atI ((t.go xs).map PyData.int) (j : Int) = some (.int ((t.go xs).getD j 0)) := by
      rw [atI_nat _ _ (by simpa using hl)]; simp [hl]
    simp [wipeE, this]
  have lc3 : evE (run T (k + 2)) (.lc (.nm 4) [4] .range1 (.cons (.ix (.var 0) (.lit (.int 1))) .nil) .nil (.prim .sum (.cons (.lc (.nm 5) [5] .seq (.cons (.var 2) .nil) .nil (.ix (.var 5) (.var 4))) .nil))) [some (.p f.enc), some (.p (inpD xs)), some (.p (.list (f.ts.map fun t => .tuple ((t.go xs).map .int)))), none, none, none] M = .ok (.p (.list ((f.votes xs).map .int))) M := by
    unfold Fo.votes votesF
    rw [List.map_map]
    refine lc_mapA (e := fun j : Nat => PyData.int j) (us := [.p (.int f.n)]) (by simp [Fo.enc]) ?_ (by simp) (by rw [sz]; simp; omega) fun j hj => ⟨_, rfl, ?_⟩
    · rw [walk_range _ _ (by omega), up_map]
    · have hj := List.mem_range.mp hj
      have := lc2 j hj none
      simp only [wipeE, e_prim, el_cons, List.set, this, bind_okE, el_nil, vals_p, vals_nil, Option.map_some, Option.bind_some, p_sum, intsD_map, lift_s, of_someE]
      rfl
  simp [c_votes_of, lc1, lc3, hM]
/-! the greatest -/
def topI : List Int → Int
  | [] => 0
  | x :: xs => xs.foldl max x
def firstMax (vs : List Int) : Nat := (findIx (fun v => decide (v = topI vs)) vs).getD 0
theorem foldl_max_mem2 : ∀ (xs : List Int) (x : Int), xs.foldl max x ∈ x :: xs
  | [], x => by simp
  | y :: xs, x => by
    rw [List.foldl_cons]
    have := foldl_max_mem2 xs (max x y)
    rcases List.mem_cons.mp this with h | h
    · rw [h]; simp only [List.mem_cons]
      rcases Int.le_total x y with q | q
      · right; left; omega
      · left; omega
    · exact List.mem_cons_of_mem _ (List.mem_cons_of_mem _ h)
theorem topI_mem {vs : List Int} (h : vs ≠ []) : topI vs ∈ vs := by
  match vs, h with
  | x :: xs, _ => exact foldl_max_mem2 xs x
theorem findIx_some {α : Type} {p : α → Bool} : ∀ {xs : List α}, (∃ x ∈ xs, p x = true) → ∃ j, findIx p xs = some j
  | [], h => by obtain ⟨x, h, _⟩ := h; cases h
  | x :: xs, h => by
    unfold findIx
    cases hp : p x with
    | true => exact ⟨0, by simp⟩
    | false =>
      obtain ⟨y, hy, hpy⟩ := h
      rcases List.mem_cons.mp hy with e | e
      · rw [e, hp] at hpy; cases hpy
      · obtain ⟨j, hj⟩ := findIx_some ⟨y, e, hpy⟩
        exact ⟨j + 1, by simp [hj]⟩
theorem firstMax_some {vs : List Int} (h : vs ≠ []) : findIx (fun v => decide (v = topI vs)) vs = some (firstMax vs) := by
  obtain ⟨j, hj⟩ := findIx_some (p := fun v => decide (v = topI vs)) ⟨_, topI_mem h, by simp⟩
  unfold firstMax
  rw [hj]; rfl
theorem maxI_top {vs : List Int} (h : vs ≠ []) : maxI vs = some (topI vs) := by
  match vs, h with
  | x :: xs, _ => rfl
theorem findIx_map {α β : Type} {p : β → Bool} {f : α → β} : ∀ xs : List α, findIx p (xs.map f) = findIx (fun x => p (f x)) xs
  | [] => rfl
  | x :: xs => by simp [findIx, findIx_map xs]
theorem eqv_ii (a b : Int) : PyData.eqv (.int a) (.int b) = decide (a = b) := by unfold PyData.eqv; by_cases h : a = b <;> simp [h]
theorem r_first (h : T.lookup ("first_greatest" : Str) = some c_first_greatest) (hM : Cl M) {vs : List Int} (hv : vs ≠ []) : run T (k + 1) "first_greatest" [.p (.tuple (vs.map .int))] M = .ok (.p (.int (firstMax vs : Nat))) M := by
  rw [run_e h _ _ _ rfl]
  have hsi : ∀ i : Int, SeqAt.shaped (.int i) = true := fun i => rfl
  have : indexD (vs.map .int) (.int (topI vs)) = some (.int (firstMax vs : Nat)) := by
    unfold indexD
    rw [shp_ll, hsi]
    simp only [Bool.and_self, if_true, findIx_map, eqv_ii, firstMax_some hv, Option.map_some]
  have hm : meth .index (.tuple (vs.map .int)) [.int (topI vs)] = some (.int (firstMax vs : Nat)) := this
  simp [c_first_greatest, maxI_top hv, recvU, recv, hm, hM]
/-! the law's own votes -/
def addV (a b : List Int) (n : Nat) : List Int := (List.range n).map fun j => a.getD j 0 + b.getD j 0
theorem pair_map (vs : List Int) : ∀ i : Nat, pairUp i (vs.map .int) = (List.range vs.length).map fun j => .tuple [.int ((i + j : Nat) : Int), .int (vs.getD j 0)] := by
  induction vs with
  | nil => intro i; rfl
  | cons v vs ih =>
    intro i
    simp only [List.map_cons, pairUp, List.length_cons, List.range_succ_eq_map, List.map_map, ih (i + 1)]
    congr 1
    refine List.map_congr_left fun j _ => ?_
    simp only [Function.comp, List.getD_cons_succ]
    congr 3
    simp; omega
theorem getD_range (n : Nat) (g : Nat → Int) {j : Nat} (h : j < n) : ((List.range n).map g).getD j 0 = g j := by simp [h]
theorem r_lvotes (L : LLaw T) (hM : Cl M) {f : Fo} (hf : f.Ru) {xs : List Vl} (hi : okIn f.kinds xs = true) : run T (k + 3) "_law_votes" [.p f.enc, .p (inpD xs)] M = .ok (.p (.tuple ((f.votes xs).map .int))) M := by
  rw [run_e L.votes _ _ _ rfl]
  have hn := hf.n3; have hn2 := hf.n2; have ht4 := hf.t4
  have h0 : bop .mul (.tuple [.int 0]) (.int f.n) = some (.tuple ((List.replicate f.n (0 : Int)).map .int)) := by
    have hc : ([PyData.int 0] ≠ [] ∧ (2 : Int) ≤ f.n ∧ (f.n : Int) ≤ 1000 ∧ [PyData.int 0].length ≤ 1000) := ⟨by simp, by omega, by omega, by simp⟩
    show (if [PyData.int 0] ≠ [] ∧ (2 : Int) ≤ f.n ∧ (f.n : Int) ≤ 1000 ∧ [PyData.int 0].length ≤ 1000 then some (PyData.tuple (rept f.n [PyData.int 0])) else none) = _
    rw [if_pos hc]
    congr 2
    unfold rept
    simp only [Int.toNat_natCast]
    generalize f.n = m
    induction m with
    | zero => rfl
    | succ m ih => simp [List.replicate_succ, ih]
  simp only [c_law_votes, List.map_cons, List.map_nil, List.length_cons, List.length_nil, Nat.reduceAdd, Nat.reduceSub, List.replicate, List.cons_append, List.nil_append, x_cons, s_asg, e_bin, e_ix, e_tup, el_cons, e_lit, el_nil, e_var, look_z, look_s, bind_okE, s_for]
  generalize hb : (exL (run T (k + 2)) (CSs.cons _ (CSs.cons _ CSs.nil)) : Env → Mem → SR) = b
  have key : ∀ (ts : List Tr) (acc : List Int) (o3 o4 : Option U), (∀ t ∈ ts, t.ok f.kinds f.n = true ∧ t.depth < 1000) → acc.length = f.n → ∃ o3' o4' acc', forF (fun M1 => stands M M1 [.p (.tuple (f.ts.map Tr.enc))]) (.nm 3) b ((ts.map Tr.enc).map .p) [some (.p f.enc), some (.p (inpD xs)), some (.p (.tuple (acc.map .int))), o3, o4, none, none] M = .next [some (.p f.enc), some (.p (inpD xs)), some (.p (.tuple (acc'.map .int))), o3', o4', none, none] M ∧ acc' = (List.range f.n).map fun j => acc.getD j 0 + (ts.map fun t => (t.go xs).getD j 0).sum := by
    intro ts
    induction ts with
    | nil =>
      intro acc o3 o4 _ hl
      refine ⟨o3, o4, acc, by simp [forF], ?_⟩
      apply List.ext_getElem
      · simp [hl]
      · intro i h1 h2; simp [h1]
    | cons t ts ih =>
      intro acc o3 o4 hts hl
      obtain ⟨ht, hd⟩ := hts t List.mem_cons_self
      have hlf := r_lleaf (k := k) L hM hi ht hd
      have hgl := t.go_len (xs := xs) ht
      obtain ⟨o3', o4', acc', e, ha⟩ := ih ((List.range f.n).map fun j => acc.getD j 0 + (t.go xs).getD j 0) (some (.p t.enc)) (some (.p (.tuple ((t.go xs).map .int)))) (fun t ht => hts t (List.mem_cons_of_mem _ ht)) (by simp)
      refine ⟨o3', o4', acc', ?_, ?_⟩
      · rw [← e]
        simp only [List.map_cons, forF, stands_p, if_true, put]
        have lc : evE (run T (k + 2)) (.lc (.tp [5, 6]) [5, 6] .enum (.cons (.var 2) .nil) .nil (.bin .add (.var 6) (.ix (.var 4) (.var 5)))) [some (.p f.enc), some (.p (inpD xs)), some (.p (.tuple (acc.map .int))), some (.p t.enc), some (.p (.tuple ((t.go xs).map .int))), none, none] M = .ok (.p (.list (((List.range f.n).map fun j => acc.getD j 0 + (t.go xs).getD j 0).map .int))) M := by
          rw [List.map_map]
          refine lc_mapA (e := fun j : Nat => PyData.tuple [.int ((0 + j : Nat) : Int), .int (acc.getD j 0)]) (us := [.p (.tuple (acc.map .int))]) (by simp) ?_ (by simp) (by rw [sz]; simp; omega) fun j hj => ⟨_, rfl, ?_⟩
          · rw [walk_enumT, pair_map, hl]
          · have hj := List.mem_range.mp hj
            have : L2.atI ((t.go xs).map PyData.int) (j : Int) = some (.int ((t.go xs).getD j 0)) := by
              rw [atI_nat _ _ (by simp [hgl, hj])]; simp [hgl, hj]
            simp [wipeE, this]
        have hstep : b [some (.p f.enc), some (.p (inpD xs)), some (.p (.tuple (acc.map .int))), some (.p t.enc), o4, none, none] M = .next [some (.p f.enc), some (.p (inpD xs)), some (.p (.tuple (((List.range f.n).map fun j => acc.getD j 0 + (t.go xs).getD j 0).map .int))), some (.p t.enc), some (.p (.tuple ((t.go xs).map .int))), none, none] M := by
          rw [← hb]
          simp [-List.map_map, hlf, lc]
        have hset : ([some (.p f.enc), some (.p (inpD xs)), some (.p (.tuple (acc.map .int))), o3, o4, none, none] : Env).set 3 (some (.p t.enc)) = [some (.p f.enc), some (.p (inpD xs)), some (.p (.tuple (acc.map .int))), some (.p t.enc), o4, none, none] := rfl
        rw [hset, hstep]
        simp only [sbind_next]
      · rw [ha]
        refine List.map_congr_left fun j hj => ?_
        have hj := List.mem_range.mp hj
        rw [getD_range _ _ hj]
        simp only [List.map_cons, List.sum_cons]
        omega
  obtain ⟨o3', o4', acc', e, ha⟩ := key f.ts (List.replicate f.n 0) none none (fun t ht => ⟨hf.tt t ht, hf.dp t ht⟩) (by simp)
  have hacc : acc' = f.votes xs := by
    rw [ha]
    unfold Fo.votes votesF
    refine List.map_congr_left fun j hj => ?_
    have hj := List.mem_range.mp hj
    simp [hj]
  have h1 : ixD f.enc (.int 1) = some (.int f.n) := by simp [Fo.enc]
  have h2 : ixD f.enc (.int 2) = some (.tuple (f.ts.map Tr.enc)) := by simp [Fo.enc]
  have hz1 : (1 : Nat) ≤ sizeLine := by rw [sz]; omega
  simp only [List.map_replicate] at e h0
  simp [-List.map_map, -stands_p, h1, h2, h0, hz1, e, hacc, hM]
end
end VW
end
section
/-! Draws: the dice, and what is drawn. -/
namespace VW
open PySem
def DC (M : Mem) (n : Nat) : Prop := ∃ a b : Int, M[n]? = some (.pl [.int a, .int b])
structure Up (n : Nat) (M M' : Mem) : Prop where
  cl : Cl M'
  dc : DC M' n
  len : M'.length = M.length
  oth : ∀ i, i ≠ n → M'[i]? = M[i]?
theorem Up.refl {n : Nat} {M : Mem} (h : Cl M) (hd : DC M n) : Up n M M := ⟨h, hd, rfl, fun _ _ => rfl⟩
theorem Up.trans {n : Nat} {M M1 M2 : Mem} (a : Up n M M1) (b : Up n M1 M2) : Up n M M2 := ⟨b.cl, b.dc, by rw [b.len, a.len], fun i h => by rw [b.oth i h, a.oth i h]⟩
theorem cl_set {M : Mem} {n : Nat} {ds : List D} (h : Cl M) : Cl (M.set n (.pl ds)) := by
  unfold Cl at *
  rw [List.all_eq_true] at *
  intro c hc
  rw [List.length_set]
  rcases List.mem_or_eq_of_mem_set hc with h1 | h1
  · exact h c h1
  · rw [h1]; rfl
theorem up_set {M : Mem} {n : Nat} {a b : Int} (h : Cl M) (hd : DC M n) : Up n M (M.set n (.pl [.int a, .int b])) := by
  obtain ⟨a0, b0, h0⟩ := hd
  have hn : n < M.length := (List.getElem?_eq_some_iff.mp h0).1
  exact ⟨cl_set h, ⟨a, b, by rw [List.getElem?_set_self hn]⟩, by simp, fun i hi => by rw [List.getElem?_set_ne (fun e => hi e.symm)]⟩
theorem leave_cl {M' : Mem} {n : Nat} {d : D} (h : Cl M') (hn : M'.length = n) : leave n false (.p d) M' = .ok (.p d) M' := by
  rw [← hn]; exact leave_same h
theorem val_ref {M : Mem} {n : Nat} {ds : List D} (h : M[n]? = some (.pl ds)) : val M (.ref n) = some (.list ds) := by simp [val, h]
theorem rdv_ref {M : Mem} {n : Nat} {ds : List D} (h : M[n]? = some (.pl ds)) : rdv M (.ref n) = some (.list ds) := by simp [rdv, val, h]
theorem names_ref {M : Mem} {n : Nat} {ds : List D} (h : M[n]? = some (.pl ds)) : names M (.ref n) = none := by simp [names, h]
theorem ixU_ref {M : Mem} {n : Nat} {ds : List D} {e : D} (h : M[n]? = some (.pl ds)) : ixU M (.ref n) (.p e) = (ixD (.list ds) e).map .p := by
  unfold ixU
  rw [names_ref h, rdv_ref h]; rfl
theorem e_sti {Φ : Fn} {ρ : Env} {M : Mem} (o k e : CE) : exS Φ (.sti o k e) ρ M = (evE Φ e ρ M).thn fun y M => (evE Φ o ρ M).thn fun x M => (evE Φ k ρ M).thn fun z M => match x with
    | .ref n => match stiC M[n]? z y with
      | some c => .next ρ (M.set n c)
      | none => .bad
    | _ => .bad := by simp only [exS] <;> congr
structure LDice (T : Tb) : Prop where
  drawn : T.lookup ("_law_drawn" : Str) = some c_law_drawn
  roll : T.lookup ("_law_roll" : Str) = some c_law_roll
structure LDraw (T : Tb) : Prop extends LDice T where
  low : T.lookup ("_law_low" : Str) = some c_law_low
  kinds : T.lookup ("_law_kinds" : Str) = some c_law_kinds
  place : T.lookup ("_law_place" : Str) = some c_law_place
  marks : T.lookup ("_law_some_marks" : Str) = some c_law_some_marks
  tree : T.lookup ("_law_tree" : Str) = some c_law_tree
  forest_of : T.lookup ("_law_forest_of" : Str) = some c_law_forest_of
  forest : T.lookup ("_law_forest" : Str) = some c_law_forest
theorem log2_small {n : Nat} (h : n < 2 ^ 300) : n.log2 < 500000 := by
  by_cases h0 : n = 0
  · rw [h0]; decide
  · have : n.log2 < 300 := (Nat.log2_lt h0).mpr h
    omega
theorem mulBig {a b : Int} (ha : a.natAbs < 2 ^ 300) (hb : b.natAbs < 2 ^ 300) : mulOk a b = true := by
  simp only [mulOk, log2_small ha, log2_small hb, decide_true, Bool.and_self, Bool.or_true]
section
variable {T : Tb} {k : Nat} {M : Mem}
theorem r_drawn (L : LDice T) (hM : Cl M) {c i : Int} : ∃ r : Int, run T (k + 1) "_law_drawn" [.p (.int c), .p (.int i)] M = .ok (.p (.int r)) M := by
  rw [run_e L.drawn _ _ _ rfl]
  have e64 : (2 : Nat) ^ 64 = 18446744073709551616 := by decide
  have h1 : mulOk c 6364136223846793005 = true := mul64r (by rw [e64]; decide)
  have h2 : mulOk (i + 1) 1442695040888963407 = true := mul64r (by rw [e64]; decide)
  generalize hm1 : (c * 6364136223846793005 + (i + 1) * 1442695040888963407) % 340282366920938463463374607431768211507 = m1
  have b1 : m1.natAbs < 2 ^ 300 := by
    have q1 : 0 ≤ m1 := by rw [← hm1]; exact Int.emod_nonneg _ (by decide)
    have q2 : m1 < 340282366920938463463374607431768211507 := by rw [← hm1]; exact Int.emod_lt_of_pos _ (by decide)
    have : (340282366920938463463374607431768211507 : Nat) < 2 ^ 300 := by decide
    omega
  have h3 : mulOk m1 m1 = true := mulBig b1 b1
  generalize hm2 : m1 * m1 % 340282366920938463463374607431768211297 = m2
  have q1 : 0 ≤ m2 := by rw [← hm2]; exact Int.emod_nonneg _ (by decide)
  have q2 : m2 < 340282366920938463463374607431768211297 := by rw [← hm2]; exact Int.emod_lt_of_pos _ (by decide)
  have b2 : m2.natAbs < 2 ^ 300 := by
    have : (340282366920938463463374607431768211297 : Nat) < 2 ^ 300 := by decide
    omega
  have r1 : 0 ≤ m2 % 18446744073709551557 := Int.emod_nonneg _ (by decide)
  have r2 : m2 % 18446744073709551557 < 18446744073709551557 := Int.emod_lt_of_pos _ (by decide)
  have r3 : 0 ≤ m2 / 18446744073709551557 := Int.ediv_nonneg q1 (by decide)
  have r4 : m2 / 18446744073709551557 ≤ m2 := Int.ediv_le_self _ q1
  have h4 : mulOk (m2 % 18446744073709551557 + 1) (m2 / 18446744073709551557 + 1) = true := mul64 (by rw [e64]; omega)
  have h5 : mulOk ((m2 % 18446744073709551557 + 1) * (m2 / 18446744073709551557 + 1)) m2 = true := by
    refine mulBig ?_ b2
    rw [Int.natAbs_mul]
    have u1 : (m2 % 18446744073709551557 + 1).natAbs ≤ 18446744073709551557 := by omega
    have u2 : (m2 / 18446744073709551557 + 1).natAbs ≤ 340282366920938463463374607431768211297 := by omega
    exact Nat.lt_of_le_of_lt (Nat.mul_le_mul u1 u2) (by decide)
  have hd : (0 : Int) < 18446744073709551557 ∧ (18446744073709551557 : Int).natAbs.log2 < 9000 := by
    refine ⟨by decide, ?_⟩
    have : (18446744073709551557 : Int).natAbs.log2 < 64 := (Nat.log2_lt (by decide)).mpr (by decide)
    omega
  refine ⟨(m2 % 18446744073709551557 + 1) * (m2 / 18446744073709551557 + 1) * m2 % 340282366920938463463374607431768211507, ?_⟩
  simp only [c_law_drawn, List.map_cons, List.map_nil, List.length_cons, List.length_nil, Nat.reduceAdd, Nat.reduceSub, List.replicate, List.cons_append, List.nil_append, x_cons, s_asg, e_bin, e_var, e_lit, look_z, look_s, bind_okE, op2_p, bop_mul, bop_add, bop_mod, bop_fdiv, h1, h2, if_true, lift_s, of_someE, hm1, thn_okE, sbind_next, List.set, h3, hm2, h4, h5, hd, and_self, s_ret, sbind_ret, endD_ret, Int.reduceLT]
  exact leave_same hM
theorem r_roll (L : LDice T) (hM : Cl M) {n : Nat} (hd : DC M n) {m : Int} (hm : 0 < m) (hm2 : m < 1000000) : ∃ (r : Int) (M' : Mem), 0 ≤ r ∧ r < m ∧ Up n M M' ∧ run T (k + 2) "_law_roll" [.ref n, .p (.int m)] M = .ok (.p (.int r)) M' := by
  have hd0 := hd
  obtain ⟨a, b, h0⟩ := hd
  have hn : n < M.length := (List.getElem?_eq_some_iff.mp h0).1
  rw [run_e L.roll _ _ _ rfl]
  have hpow : (0 : Int) ≤ 18 ∧ (18 : Int) ≤ 1000 ∧ (10 : Int).natAbs < 2 ^ 64 := by decide
  have hlog : 0 < m ∧ m.natAbs.log2 < 9000 := by
    refine ⟨hm, ?_⟩
    have e20 : (2 : Nat) ^ 20 = 1048576 := by decide
    have : m.natAbs.log2 < 20 := (Nat.log2_lt (by omega)).mpr (by rw [e20]; omega)
    omega
  by_cases hbig : (10 : Int) ^ (18 : Int).toNat ≤ a
  · refine ⟨a % m, M.set n (.pl [.int (a / m), .int b]), Int.emod_nonneg _ (by omega), Int.emod_lt_of_pos _ hm, up_set hM hd0, ?_⟩
    have hst : stiC M[n]? (.p (.int 0)) (.p (.int (a / m))) = some (.pl [.int (a / m), .int b]) := by
      rw [h0]; simp [stiC, L2.ixN]
    have hcl := cl_set (n := n) (ds := [.int (a / m), .int b]) hM
    have hll : leave M.length false (.p (.int (a % m))) (M.set n (.pl [.int (a / m), .int b])) = .ok (.p (.int (a % m))) (M.set n (.pl [.int (a / m), .int b])) := leave_cl hcl (by simp)
    simp only [c_law_roll, List.map_cons, List.map_nil, List.length_cons, List.length_nil, Nat.reduceAdd, Nat.reduceSub, List.replicate, List.cons_append, List.nil_append, x_cons, s_iff, e_cmp, e_ix, e_var, e_lit, look_z, look_s, bind_okE, ixU_ref h0, ixD_l, atI_0, Option.map_some, of_someE, e_bin, op2_p, bop_pow, hpow, and_self, if_true, lift_s, op2r_p, cop_ge, liftB_s, thn_okE, brU_b, hbig, decide_true, s_asg, bop_mod, hm, List.set, sbind_next, e_sti, bop_fdiv, hlog, hst, s_ret, sbind_ret, endD_ret, hll]
  · obtain ⟨r, hr⟩ := r_drawn (k := k) (M := M.set n (.pl [.int a, .int (b + 1)])) L (cl_set hM) (c := a) (i := b + 1)
    refine ⟨r / 8 % m, M.set n (.pl [.int a, .int (b + 1)]), Int.emod_nonneg _ (by omega), Int.emod_lt_of_pos _ hm, up_set hM hd0, ?_⟩
    have hst : stiC M[n]? (.p (.int 1)) (.p (.int (b + 1))) = some (.pl [.int a, .int (b + 1)]) := by
      rw [h0]; simp [stiC, L2.ixN]
    have h1 : (M.set n (.pl [.int a, .int (b + 1)]))[n]? = some (.pl [.int a, .int (b + 1)]) := by rw [List.getElem?_set_self hn]
    have h8 : (0 : Int) < 8 ∧ (8 : Int).natAbs.log2 < 9000 := by
      refine ⟨by decide, ?_⟩
      have : (8 : Int).natAbs.log2 < 10 := (Nat.log2_lt (by decide)).mpr (by decide)
      omega
    have hcl := cl_set (n := n) (ds := [.int a, .int (b + 1)]) hM
    have hll : leave M.length false (.p (.int (r / 8 % m))) (M.set n (.pl [.int a, .int (b + 1)])) = .ok (.p (.int (r / 8 % m))) (M.set n (.pl [.int a, .int (b + 1)])) := leave_cl hcl (by simp)
    simp only [c_law_roll, List.map_cons, List.map_nil, List.length_cons, List.length_nil, Nat.reduceAdd, Nat.reduceSub, List.replicate, List.cons_append, List.nil_append, x_cons, s_iff, e_cmp, e_ix, e_var, e_lit, look_z, look_s, bind_okE, ixU_ref h0, ixU_ref h1, ixD_l, atI_0, atI_1, Option.map_some, of_someE, e_bin, op2_p, bop_pow, hpow, and_self, if_true, lift_s, op2r_p, cop_ge, liftB_s, thn_okE, brU_b, hbig, decide_false, Bool.false_eq_true, if_false, x_nil, bop_mod, bop_add, hm, List.set, sbind_next, e_sti, bop_fdiv, h8, hst, s_ret, sbind_ret, endD_ret, e_call, el_cons, el_nil, hr, hll]
end
end VW
end
section
/-! What is drawn: fractions, kinds, marks, trees, forests, inputs. -/
namespace VW
open PySem
/-- one turn of a comprehension -/
def lcF (Φ : Fn) (g : Tg) (own : List Nat) (us : List U) (cs : CEs) (elt : CE) (ρ : Env) (M : Mem) (x : U) (M1 : Mem) : R (Option U) := match put g x (wipeE ρ own) with
  | some ρ1 => if stands M M1 us = true then (evB Φ true cs ρ1 M1).calm.bind fun t M2 => brU t ((evE Φ elt ρ1 M2).calm.bind fun y M3 => .ok (some y) M3) (.ok none M2) .bad else .bad
  | none => .bad
theorem e_lc (Φ : Fn) (g : Tg) (own : List Nat) (it : IT) (src cs : CEs) (elt : CE) (ρ : Env) (M : Mem) : evE Φ (.lc g own it src cs elt) ρ M = (evL Φ src ρ M).bind fun us M => match walk M it us with
    | some xs => (gather (lcF Φ g own us cs elt ρ M) xs [] M).bind fun ys M1 => if stands M M1 us = true then .of (mkL ys) M1 else .bad
    | none => .bad := by
  simp only [evE] <;> congr
section
variable {Φ : Fn} {ρ : Env} {M M0 : Mem} {g : Tg} {own : List Nat} {it : IT} {src : CEs} {elt c : CE} {us : List U} {n : Nat}
theorem gather_draw {α : Type} {f : U → Mem → R (Option U)} {enc : α → D} {Q : α → Prop} {M : Mem} : ∀ (ds : List D) (acc : List U) (M1 : Mem), Up n M M1 →
    (∀ d ∈ ds, ∀ M1, Up n M M1 → ∃ a M2, f (.p d) M1 = .ok (some (.p (enc a))) M2 ∧ Q a ∧ Up n M1 M2) → acc.length + ds.length ≤ sizeLine →
    ∃ (as : List α) (M2 : Mem), gather f (ds.map .p) acc M1 = .ok (acc ++ as.map fun a => .p (enc a)) M2 ∧ as.length = ds.length ∧ (∀ a ∈ as, Q a) ∧ Up n M M2
  | [], acc, M1, u, _, _ => ⟨[], M1, by simp [gather], rfl, (fun a h => nomatch h), u⟩
  | d :: ds, acc, M1, u, h, hl => by
    obtain ⟨a, M2, h1, h2, h3⟩ := h d List.mem_cons_self M1 u
    simp only [List.length_cons] at hl
    have hl' : acc.length < sizeLine := by omega
    obtain ⟨as, M3, e, e2, e3, e4⟩ := gather_draw ds (acc ++ [.p (enc a)]) M2 (u.trans h3) (fun d hd => h d (List.mem_cons_of_mem _ hd)) (by simp; omega)
    refine ⟨a :: as, M3, ?_, by simp [e2], fun b hb => ?_, e4⟩
    · simp only [List.map_cons, gather, h1, bind_okE, hl', if_true, e]
      simp
    · rcases List.mem_cons.mp hb with rfl | hb
      · exact h2
      · exact e3 b hb
theorem mkL_mapA {α : Type} (enc : α → D) (as : List α) : mkL (as.map fun a => .p (enc a)) = some (.p (.list (as.map enc))) := by
  have : (as.map fun a => U.p (enc a)) = (as.map enc).map .p := by simp
  rw [this, mkL_map]
/-- [elt for g in src], drawn -/
theorem lc_draw {α : Type} {enc : α → D} {Q : α → Prop} {ds : List D} (hs : evL Φ src ρ M0 = .ok us M) (hw : walk M it us = some (ds.map .p)) (hst : ∀ M1, stands M M1 us = true) (hl : ds.length ≤ sizeLine) (u0 : Up n M M)
    (hx : ∀ d ∈ ds, ∀ M1, Up n M M1 → ∃ ρ1 a M2, put g (.p d) (wipeE ρ own) = some ρ1 ∧ evE Φ elt ρ1 M1 = .ok (.p (enc a)) M2 ∧ Q a ∧ Up n M1 M2) :
    ∃ (as : List α) (M2 : Mem), evE Φ (.lc g own it src .nil elt) ρ M0 = .ok (.p (.list (as.map enc))) M2 ∧ as.length = ds.length ∧ (∀ a ∈ as, Q a) ∧ Up n M M2 := by
  simp only [e_lc, hs, bind_okE, hw]
  obtain ⟨as, M2, e, e2, e3, e4⟩ := gather_draw (n := n) (enc := enc) (Q := Q) (M := M) (f := lcF Φ g own us .nil elt ρ M) ds [] M u0 (fun d hd M1 u => by
    obtain ⟨ρ1, a, M2, h1, h2, h3, h4⟩ := hx d hd M1 u
    exact ⟨a, M2, by simp [lcF, h1, hst, h2], h3, h4⟩) (by simpa using hl)
  refine ⟨as, M2, ?_, e2, e3, e4⟩
  rw [e]
  simp only [bind_okE, hst, if_true, List.nil_append, mkL_mapA, of_someE]
theorem gather_drawF {f : U → Mem → R (Option U)} {M : Mem} : ∀ (ds : List D) (acc : List U) (M1 : Mem), Up n M M1 →
    (∀ d ∈ ds, ∀ M1, Up n M M1 → ∃ (o : Bool) (M2 : Mem), f (.p d) M1 = .ok (if o then some (.p d) else none) M2 ∧ Up n M1 M2) → acc.length + ds.length ≤ sizeLine →
    ∃ (as : List D) (M2 : Mem), gather f (ds.map .p) acc M1 = .ok (acc ++ as.map .p) M2 ∧ as.Sublist ds ∧ Up n M M2
  | [], acc, M1, u, _, _ => ⟨[], M1, by simp [gather], .slnil, u⟩
  | d :: ds, acc, M1, u, h, hl => by
    obtain ⟨o, M2, h1, h3⟩ := h d List.mem_cons_self M1 u
    simp only [List.length_cons] at hl
    have hl' : acc.length < sizeLine := by omega
    cases o with
    | false =>
      obtain ⟨as, M3, e, e2, e4⟩ := gather_drawF ds acc M2 (u.trans h3) (fun d hd => h d (List.mem_cons_of_mem _ hd)) (by omega)
      refine ⟨as, M3, ?_, e2.cons _, e4⟩
      simp only [List.map_cons, gather, h1, bind_okE, Bool.false_eq_true, if_false, e]
    | true =>
      obtain ⟨as, M3, e, e2, e4⟩ := gather_drawF ds (acc ++ [.p d]) M2 (u.trans h3) (fun d hd => h d (List.mem_cons_of_mem _ hd)) (by simp; omega)
      refine ⟨d :: as, M3, ?_, e2.cons_cons _, e4⟩
      simp only [List.map_cons, gather, h1, bind_okE, if_true, hl', e]
      simp
/-- [d for d in src if c], the condition drawn -/
theorem lc_drawF {ds : List D} (hs : evL Φ src ρ M0 = .ok us M) (hw : walk M it us = some (ds.map .p)) (hst : ∀ M1, stands M M1 us = true) (hl : ds.length ≤ sizeLine) (u0 : Up n M M)
    (hx : ∀ d ∈ ds, ∀ M1, Up n M M1 → ∃ ρ1 o M2, put g (.p d) (wipeE ρ own) = some ρ1 ∧ evE Φ c ρ1 M1 = .ok (.p (.bool o)) M2 ∧ evE Φ elt ρ1 M2 = .ok (.p d) M2 ∧ Up n M1 M2) :
    ∃ (as : List D) (M2 : Mem), evE Φ (.lc g own it src (.cons c .nil) elt) ρ M0 = .ok (.p (.list as)) M2 ∧ as.Sublist ds ∧ Up n M M2 := by
  simp only [e_lc, hs, bind_okE, hw]
  obtain ⟨as, M2, e, e2, e4⟩ := gather_drawF (n := n) (M := M) (f := lcF Φ g own us (.cons c .nil) elt ρ M) ds [] M u0 (fun d hd M1 u => by
    obtain ⟨ρ1, o, M2, h1, h2, h3, h4⟩ := hx d hd M1 u
    refine ⟨o, M2, ?_, h4⟩
    cases o <;> simp [lcF, h1, hst, h2, h3]) (by simpa using hl)
  refine ⟨as, M2, ?_, e2, e4⟩
  rw [e]
  simp only [bind_okE, hst, if_true, List.nil_append, mkL_map, of_someE]
end
section
variable {T : Tb} {k : Nat} {M : Mem} {n : Nat}
theorem r_low (h : T.lookup ("_law_low" : Str) = some c_law_low) (hM : Cl M) {t : Int} {b : Nat} (hb : 0 < b) (hb2 : b < 2 ^ 1000) : run T (k + 1) "_law_low" [.p (.int t), .p (.int b)] M = .ok (.p (fr (t / (t.natAbs.gcd b : Nat)) ((b / t.natAbs.gcd b : Nat) : Int))) M := by
  rw [run_e h _ _ _ rfl]
  have e : (if t < 0 then -t else t) = ((t.natAbs : Nat) : Int) := by split <;> omega
  have key := gcd_while (M := M) (c := evE (run T k) (.cmp .ne (.var 3) (.lit (.int 0)))) (b := exL (run T k) (.cons (.par 2 3 (.var 3) (.bin .mod (.var 2) (.var 3))) .nil)) (E := fun x y => [some (.p (.int t)), some (.p (.int b)), some (.p (.int x)), some (.p (.int y))]) (fun x y => by simp) (fun x y h => by simp [h]) 1000 1000000 t.natAbs b hb2 (by decide)
  have hg : 0 < t.natAbs.gcd b := Nat.gcd_pos_of_pos_right _ hb
  have hgb : t.natAbs.gcd b ≤ b := Nat.gcd_le_right _ hb
  have hd : (0 : Int) < ((t.natAbs.gcd b : Nat) : Int) ∧ ((t.natAbs.gcd b : Nat) : Int).natAbs.log2 < 9000 := by
    refine ⟨by omega, ?_⟩
    rw [Int.natAbs_natCast]
    have : (t.natAbs.gcd b).log2 < 1000 := (Nat.log2_lt (by omega)).mpr (Nat.lt_of_le_of_lt hgb hb2)
    omega
  have hz2 : (2 : Nat) ≤ sizeLine := by rw [sz]; omega
  simp only [c_law_low, List.map_cons, List.map_nil, List.length_cons, List.length_nil, Nat.reduceAdd, Nat.reduceSub, List.replicate, List.cons_append, List.nil_append, x_cons, s_par, e_prim, el_cons, e_var, look_z, look_s, bind_okE, el_nil, vals_p, vals_nil, Option.map_some, Option.bind_some, p_abs, e, lift_s, of_someE, thn_okE, List.set, sbind_next, s_whl, key, s_ret, e_tup, e_bin, op2_p, bop_fdiv, hd, and_self, if_true, x_nil, sbind_ret, endD_ret]
  have : mkT [U.p (.int (t / ((t.natAbs.gcd b : Nat) : Int))), U.p (.int ((b : Int) / ((t.natAbs.gcd b : Nat) : Int)))] M = .ok (.p (fr (t / (t.natAbs.gcd b : Nat)) ((b / t.natAbs.gcd b : Nat) : Int))) M := by
    rw [mkT_p _ [.int (t / ((t.natAbs.gcd b : Nat) : Int)), .int ((b : Int) / ((t.natAbs.gcd b : Nat) : Int))] _ rfl hz2]
    simp
  rw [this]
  simp [hM]
/-- in lowest terms -/
theorem low_gcd {t : Int} {b : Nat} (hb : 0 < b) : (t / (t.natAbs.gcd b : Nat)).natAbs.gcd (b / t.natAbs.gcd b) = 1 := by
  have hg : 0 < t.natAbs.gcd b := Nat.gcd_pos_of_pos_right _ hb
  have hdv : ((t.natAbs.gcd b : Nat) : Int) ∣ t := Int.ofNat_dvd_left.mpr (Nat.gcd_dvd_left _ _)
  have e : (t / (t.natAbs.gcd b : Nat)).natAbs = t.natAbs / t.natAbs.gcd b := by
    rw [Int.natAbs_ediv_of_dvd hdv, Int.natAbs_natCast]
  rw [e]
  exact Nat.gcd_div_gcd_div_gcd_of_pos_right hb
end
end VW
end
section
/-! What is drawn: fractions, kinds, marks, trees, forests. -/
namespace VW
open PySem
def Pl (a b : Int) : Prop := okPl a b = true ∧ -8 ≤ a ∧ a ≤ 8 ∧ (b = 1 ∨ b = 2 ∨ b = 4)
def DK : List Str := ["0", "ab", "abc", "bdx", "klmz"]
theorem low_bounds {t : Int} {b : Nat} (hb : 0 < b) : ((t / (t.natAbs.gcd b : Nat)).natAbs ≤ t.natAbs) ∧ 1 ≤ b / t.natAbs.gcd b ∧ b / t.natAbs.gcd b ≤ b := by
  have hg : 0 < t.natAbs.gcd b := Nat.gcd_pos_of_pos_right _ hb
  have hdv : ((t.natAbs.gcd b : Nat) : Int) ∣ t := Int.ofNat_dvd_left.mpr (Nat.gcd_dvd_left _ _)
  refine ⟨?_, ?_, Nat.div_le_self _ _⟩
  · rw [Int.natAbs_ediv_of_dvd hdv, Int.natAbs_natCast]; exact Nat.div_le_self _ _
  · exact (Nat.le_div_iff_mul_le hg).mpr (by rw [Nat.one_mul]; exact Nat.gcd_le_right _ hb)
theorem low_pl {t : Int} {b : Nat} (h1 : -8 ≤ t) (h2 : t ≤ 8) (hb : b = 1 ∨ b = 2 ∨ b = 4) : Pl (t / (t.natAbs.gcd b : Nat)) ((b / t.natAbs.gcd b : Nat) : Int) := by
  have hb0 : 0 < b := by omega
  obtain ⟨q1, q2, q3⟩ := low_bounds (t := t) hb0
  have hg := low_gcd (t := t) hb0
  have hd : b / t.natAbs.gcd b ∣ b := Nat.div_dvd_of_dvd (Nat.gcd_dvd_right _ _)
  have e3 : ¬ (b / t.natAbs.gcd b = 3) := fun z => by
    rw [z] at hd
    rcases hb with rfl | rfl | rfl <;> omega
  refine ⟨?_, by omega, by omega, by omega⟩
  simp only [okPl, Bool.and_eq_true, decide_eq_true_eq, Int.natAbs_natCast]
  exact ⟨by omega, by omega, hg⟩
theorem low_fr {t : Int} {b : Nat} (h1 : -40 ≤ t) (h2 : t ≤ 40) (hb0 : 0 < b) (hb : b ≤ 7) : okFr (t / (t.natAbs.gcd b : Nat)) ((b / t.natAbs.gcd b : Nat) : Int) = true := by
  obtain ⟨q1, q2, q3⟩ := low_bounds (t := t) hb0
  have hg := low_gcd (t := t) hb0
  have hbN : bigN = 1000000000000 := rfl
  simp only [okFr, Bool.and_eq_true, decide_eq_true_eq, Int.natAbs_natCast]
  exact ⟨by omega, by omega, hg⟩
section
variable {T : Tb} {k : Nat} {M : Mem} {n : Nat}
theorem small1000 {b : Nat} (h : b ≤ 1000) : b < 2 ^ 1000 := Nat.lt_of_le_of_lt h (by decide)
theorem r_place (L : LDraw T) (hM : Cl M) (hd : DC M n) : ∃ a b M', run T (k + 3) "_law_place" [.ref n] M = .ok (.p (fr a b)) M' ∧ Pl a b ∧ Up n M M' := by
  obtain ⟨r1, M1, p1, p2, u1, e1⟩ := r_roll (k := k) L.toLDice hM hd (m := 17) (by decide) (by decide)
  obtain ⟨r2, M2, p3, p4, u2, e2⟩ := r_roll (k := k) L.toLDice u1.cl u1.dc (m := 4) (by decide) (by decide)
  obtain ⟨b, hb, hat⟩ : ∃ b : Nat, (b = 1 ∨ b = 2 ∨ b = 4) ∧ L2.atI [PyData.int 1, .int 1, .int 2, .int 4] r2 = some (.int b) := by
    have : r2 = 0 ∨ r2 = 1 ∨ r2 = 2 ∨ r2 = 3 := by omega
    rcases this with rfl | rfl | rfl | rfl
    · exact ⟨1, .inl rfl, by simp⟩
    · exact ⟨1, .inl rfl, by simp⟩
    · exact ⟨2, .inr (.inl rfl), by simp⟩
    · exact ⟨4, .inr (.inr rfl), by simp⟩
  have hlow := r_low (k := k + 1) L.low u2.cl (t := r1 - 8) (b := b) (by omega) (small1000 (by omega))
  refine ⟨_, _, M2, ?_, low_pl (t := r1 - 8) (by omega) (by omega) hb, u1.trans u2⟩
  rw [run_e L.place _ _ _ rfl]
  have hz4 : (4 : Nat) ≤ sizeLine := by rw [sz]; omega
  simp only [c_law_place, List.map_cons, List.map_nil, List.length_cons, List.length_nil, Nat.reduceAdd, Nat.reduceSub, List.replicate, List.cons_append, List.nil_append, x_cons, s_ret, e_call, el_cons, el_nil, e_bin, e_var, e_lit, look_z, bind_okE, e1, op2_p, bop_sub, lift_s, of_someE, e_ix, e_lst, hz4, if_true, pures_cons, pures_nil, Option.map_some, mkL, e2, ixU_p, ixD_l, hat, hlow, thn_okE, sbind_ret, endD_ret]
  exact leave_cl u2.cl (by rw [u2.len, u1.len])
theorem DK_at {r : Int} (h1 : 0 ≤ r) (h2 : r < 7) : ∃ kd ∈ DK, L2.atI [PyData.str "0", .str "0", .str "ab", .str "abc", .str "bdx", .str "0", .str "klmz"] r = some (.str kd) := by
  have : r = 0 ∨ r = 1 ∨ r = 2 ∨ r = 3 ∨ r = 4 ∨ r = 5 ∨ r = 6 := by omega
  rcases this with rfl | rfl | rfl | rfl | rfl | rfl | rfl
  · exact ⟨"0", by simp [DK], rfl⟩
  · exact ⟨"0", by simp [DK], rfl⟩
  · exact ⟨"ab", by simp [DK], rfl⟩
  · exact ⟨"abc", by simp [DK], rfl⟩
  · exact ⟨"bdx", by simp [DK], rfl⟩
  · exact ⟨"0", by simp [DK], rfl⟩
  · exact ⟨"klmz", by simp [DK], rfl⟩
theorem r_kinds (L : LDraw T) (hM : Cl M) (hd : DC M n) : ∃ ks M', run T (k + 3) "_law_kinds" [.ref n] M = .ok (.p (kindsD ks)) M' ∧ 1 ≤ ks.length ∧ ks.length ≤ 3 ∧ (∀ x ∈ ks, x ∈ DK) ∧ Up n M M' := by
  obtain ⟨r1, M1, p1, p2, u1, e1⟩ := r_roll (k := k) L.toLDice hM hd (m := 3) (by decide) (by decide)
  have hz7 : (7 : Nat) ≤ sizeLine := by rw [sz]; omega
  obtain ⟨j, rfl⟩ : ∃ j : Nat, r1 = j := ⟨r1.toNat, by omega⟩
  obtain ⟨ks, M2, h1, h2, h3, h4⟩ := lc_draw (n := n) (Φ := run T (k + 2)) (M := M1) (M0 := M) (ρ := [some (.ref n), some (.p (.list [.str "0", .str "0", .str "ab", .str "abc", .str "bdx", .str "0", .str "klmz"])), none]) (g := .nm 2) (own := [2]) (it := .range1) (src := .cons (.bin .add (.lit (.int 1)) (.call "_law_roll" (.cons (.var 0) (.cons (.lit (.int 3)) .nil)))) .nil) (elt := .ix (.var 1) (.call "_law_roll" (.cons (.var 0) (.cons (.lit (.int 7)) .nil)))) (us := [.p (.int ((1 + j : Nat) : Int))]) (enc := PyData.str) (Q := fun x => x ∈ DK) (ds := up 0 (1 + j)) (by simp [e1]) (walk_range _ _ (by omega)) (fun _ => rfl) (by rw [sz]; simp [up]; omega) (.refl u1.cl u1.dc) fun d hd M3 u3 => by
    obtain ⟨r2, M4, p3, p4, u4, e2⟩ := r_roll (k := k) L.toLDice u3.cl u3.dc (m := 7) (by decide) (by decide)
    obtain ⟨kd, hk, hat⟩ := DK_at p3 p4
    exact ⟨_, kd, M4, rfl, by simp [wipeE, e2, hat], hk, u4⟩
  refine ⟨ks, M2, ?_, by rw [h2]; simp [up], by rw [h2]; simp [up]; omega, h3, u1.trans h4⟩
  rw [run_e L.kinds _ _ _ rfl]
  simp only [c_law_kinds, List.map_cons, List.map_nil, List.length_cons, List.length_nil, Nat.reduceAdd, Nat.reduceSub, List.replicate, List.cons_append, List.nil_append, x_cons, s_ret, s_asg, e_lst, el_cons, el_nil, e_lit, bind_okE, hz7, if_true, pures_cons, pures_nil, Option.map_some, mkL, of_someE, thn_okE, List.set, sbind_next, e_prim, h1, vals_p, vals_nil, Option.bind_some, p_tuple, seqD_l, lift_s, sbind_ret, endD_ret]
  exact leave_cl h4.cl (by rw [h4.len, u1.len])
/-! marks -/
theorem join_signs (cs : List Nat) : Txt.join "" (cs.map fun c => (⟨#[c]⟩ : Str)) = ⟨cs.toArray⟩ := by
  show Builtin.Str.glued _ _ = _
  rw [StrLaws.glued_eq_join]
  induction cs with
  | nil => rfl
  | cons c cs ih =>
    cases cs with
    | nil => rfl
    | cons c2 cs =>
      simp only [List.map_cons] at ih ⊢
      rw [Str.join, ih]
      · show Str.append (Str.append _ _) _ = _
        have : (Str.ofString "").cps = #[] := rfl
        simp [Str.append, this]
      · simp
theorem DK_marks : ∀ kd ∈ DK, kd ≠ "0" → (∀ m ∈ (kd.cps.toList.foldr (fun c acc => acc ++ acc.map (c :: ·)) [[]]), m ≠ [] → okMk kd ⟨m.toArray⟩ = true) := by decide +kernel
theorem sub_mem : ∀ {l m : List Nat}, m.Sublist l → m ∈ l.foldr (fun c acc => acc ++ acc.map (c :: ·)) [[]]
  | [], _, h => by cases h; simp
  | c :: l, m, h => by
    simp only [List.foldr_cons, List.mem_append, List.mem_map]
    cases h with
    | cons _ h => exact .inl (sub_mem h)
    | cons_cons _ h => exact .inr ⟨_, sub_mem h, rfl⟩
theorem DK_one : ∀ kd ∈ DK, kd ≠ "0" → ∀ c ∈ kd.cps.toList, okMk kd ⟨#[c]⟩ = true ∧ (Vl.mk ⟨#[c]⟩).ok kd = true := by decide +kernel
theorem DK_len : ∀ kd ∈ DK, kd.length ≤ 4 ∧ 1 ≤ kd.length ∧ okKind kd = true := by decide +kernel
theorem sublist_signs {x : Str} {as : List D} (h : as.Sublist (signs x)) : ∃ cs : List Nat, cs.Sublist x.cps.toList ∧ as = cs.map fun c => .str ⟨#[c]⟩ := by
  unfold signs at h
  obtain ⟨cs, h1, h2⟩ := List.sublist_map_iff.mp h
  exact ⟨cs, h1, h2⟩
theorem r_marksD (L : LDraw T) (hM : Cl M) (hd : DC M n) {kd : Str} (hk : kd ∈ DK) (hk0 : kd ≠ "0") : ∃ m M', run T (k + 3) "_law_some_marks" [.ref n, .p (.str kd)] M = .ok (.p (.str m)) M' ∧ okMk kd m = true ∧ Up n M M' := by
  obtain ⟨hl4, hl1, _⟩ := DK_len kd hk
  have hsl : (signs kd).length ≤ 4 := by simp only [signs, List.length_map, Array.length_toList]; exact hl4
  obtain ⟨as, M2, h1, h2, h4⟩ := lc_drawF (n := n) (Φ := run T (k + 2)) (M := M) (M0 := M) (ρ := [some (.ref n), some (.p (.str kd)), none, none]) (g := .nm 3) (own := [3]) (it := .seq) (src := .cons (.var 1) .nil) (c := .cmp .eq (.call "_law_roll" (.cons (.var 0) (.cons (.lit (.int 2)) .nil))) (.lit (.int 0))) (elt := .var 3) (us := [.p (.str kd)]) (ds := signs kd) (by simp) (by simp) (fun _ => by simp) (by rw [sz]; omega) (.refl hM hd) fun d hd M3 u3 => by
    obtain ⟨r2, M4, p3, p4, u4, e2⟩ := r_roll (k := k) L.toLDice u3.cl u3.dc (m := 2) (by decide) (by decide)
    exact ⟨_, decide (r2 = 0), M4, rfl, by simp [wipeE, e2], by simp [wipeE], u4⟩
  obtain ⟨cs, g1, g2⟩ := sublist_signs h2
  have hcl : cs.length ≤ 4 := by
    have := g1.length_le
    rw [Array.length_toList] at this
    exact Nat.le_trans this hl4
  have hstr : strsD as = some (cs.map fun c => (⟨#[c]⟩ : Str)) := by
    rw [g2]
    have : (cs.map fun c => PyData.str ⟨#[c]⟩) = (cs.map fun c => (⟨#[c]⟩ : Str)).map .str := by simp
    rw [this, strsD_map]
  have hsum : ((cs.map fun c => (⟨#[c]⟩ : Str)).map Str.length).sum = cs.length := by
    clear g1 g2 hcl hstr
    induction cs with
    | nil => rfl
    | cons c cs ih => simp only [List.map_cons, List.sum_cons, ih, List.length_cons]; simp [Str.length]; omega
  have hj : meth .join (.str "") [.list as] = some (.str ⟨cs.toArray⟩) := by
    show (((seqD (.list as)).bind strsD).bind fun ys => if Str.length "" * ys.length + (ys.map Str.length).sum ≤ 16777216 then some (PyData.str (Txt.join "" ys)) else none) = _
    rw [seqD_l, Option.bind_some, hstr, Option.bind_some, hsum, join_signs, if_pos]
    have : Str.length "" = 0 := rfl
    rw [this]; omega
  by_cases hne : cs = []
  · obtain ⟨r2, M4, p3, p4, u4, e2⟩ := r_roll (k := k) L.toLDice h4.cl h4.dc (m := kd.length) (by omega) (by omega)
    obtain ⟨j, rfl⟩ : ∃ j : Nat, r2 = j := ⟨r2.toNat, by omega⟩
    have hj2 : j < kd.cps.toList.length := by rw [Array.length_toList]; have : kd.length = kd.cps.size := rfl; omega
    have hix : ixD (.str kd) (.int j) = some (.str ⟨#[kd.cps.toList[j]]⟩) := by
      have : kd.length ≤ sizeLine := by rw [sz]; omega
      show (if kd.length ≤ sizeLine then (L2.atI kd.cps.toList (j : Int)).map fun c => PyData.str ⟨#[c]⟩ else none) = _
      rw [if_pos this, atI_nat _ _ hj2, List.getElem?_eq_getElem hj2]; rfl
    refine ⟨_, M4, ?_, (DK_one kd hk hk0 _ (List.getElem_mem hj2)).1, h4.trans u4⟩
    rw [run_e L.marks _ _ _ rfl]
    have he : eqD (.str ⟨cs.toArray⟩) (.str "") = some true := by
      rw [hne]; decide +kernel
    have hlen : lenD (.str kd) = some (kd.length : Int) := by
      have : kd.length ≤ sizeLine := by rw [sz]; omega
      simp [lenD, this]
    have hrv : recvU M .join (.p (.str "")) = true := rfl
    simp only [c_law_some_marks, List.map_cons, List.map_nil, List.length_cons, List.length_nil, Nat.reduceAdd, Nat.reduceSub, List.replicate, List.cons_append, List.nil_append, x_cons, s_ret, s_asg, e_met, el_cons, el_nil, e_lit, bind_okE, hrv, if_true, h1, val_p, vals_p, vals_nil, Option.map_some, hj, lift_s, of_someE, thn_okE, List.set, sbind_next, e_ite, e_cmp, e_var, look_z, look_s, op2r_p, cop_ne, he, liftB_s, brU_b, Bool.not_true, Bool.false_eq_true, if_false, e_ix, e_call, e_prim, Option.bind_some, p_len, hlen, e2, ixU_p, hix, sbind_ret, endD_ret]
    exact leave_cl u4.cl (by rw [u4.len, h4.len])
  · refine ⟨⟨cs.toArray⟩, M2, ?_, DK_marks kd hk hk0 cs (sub_mem g1) hne, h4⟩
    rw [run_e L.marks _ _ _ rfl]
    have hok := DK_marks kd hk hk0 cs (sub_mem g1) hne
    have he : eqD (.str ⟨cs.toArray⟩) (.str "") = some false := by
      simp only [okMk, smS, Bool.and_eq_true] at hok
      rw [eqD_ss hok.2.2.2 okS_e]
      have : ¬ (⟨cs.toArray⟩ : Str) = "" := fun z => by
        have := (emp_iff _).mp z
        simp at this
        exact hne this
      simp [this]
    have hrv : recvU M .join (.p (.str "")) = true := rfl
    simp only [c_law_some_marks, List.map_cons, List.map_nil, List.length_cons, List.length_nil, Nat.reduceAdd, Nat.reduceSub, List.replicate, List.cons_append, List.nil_append, x_cons, s_ret, s_asg, e_met, el_cons, el_nil, e_lit, bind_okE, hrv, if_true, h1, val_p, vals_p, vals_nil, Option.map_some, hj, lift_s, of_someE, thn_okE, List.set, sbind_next, e_ite, e_cmp, e_var, look_z, look_s, op2r_p, cop_ne, he, liftB_s, brU_b, Bool.not_false, sbind_ret, endD_ret]
    exact leave_cl h4.cl h4.len
end
end VW
end
section
/-! Drawn trees, forests, inputs. -/
namespace VW
open PySem
section
variable {T : Tb} {k : Nat} {M : Mem} {n : Nat}
theorem word_enc (t : Tr) : ∃ xs, t.enc = .tuple xs := by cases t <;> exact ⟨_, rfl⟩
theorem r_treeD (L : LDraw T) {ks : List Str} (hks : ∀ x ∈ ks, x ∈ DK) (hk1 : 1 ≤ ks.length) (hk3 : ks.length ≤ 3) {a : Nat} (ha2 : 2 ≤ a) (ha : a ≤ 3) : ∀ (most k : Nat) (M : Mem), 1 ≤ most → most ≤ 1000 → Cl M → DC M n →
    ∃ (t : Tr) (M' : Mem), run T (k + most + 4) "_law_tree" [.ref n, .p (kindsD ks), .p (.int a), .p (.int most)] M = .ok (.p t.enc) M' ∧ t.ok ks a = true ∧ t.leaves ≤ most ∧ Up n M M' := by
  intro most
  induction most using Nat.strongRecOn with
  | _ most ih =>
    intro k M h1 h1000 hM hd
    rw [show k + most + 4 = (k + most + 3) + 1 by omega, run_e L.tree _ _ _ rfl]
    have hz2 : (2 : Nat) ≤ sizeLine := by rw [sz]; omega
    have hz3 : (3 : Nat) ≤ sizeLine := by rw [sz]; omega
    have hz5 : (5 : Nat) ≤ sizeLine := by rw [sz]; omega
    -- a leaf
    have leaf : ∀ M1, Up n M M1 → ∃ (t : Tr) (M' : Mem), exL (run T (k + most + 3)) (.cons (.ret (.tup (.cons (.lit (.str "leaf")) (.cons (.prim .tuple (.cons (.lc (.nm 8) [8] .range1 (.cons (.var 2) .nil) .nil (.bin .sub (.call "_law_roll" (.cons (.var 0) (.cons (.lit (.int 7)) .nil))) (.lit (.int 2)))) .nil)) .nil)))) .nil) [some (.ref n), some (.p (kindsD ks)), some (.p (.int a)), some (.p (.int most)), none, none, none, none, none] M1 = .ret (.p (Tr.enc t)) M' ∧ t.ok ks a = true ∧ t.leaves ≤ most ∧ Up n M M' := fun M1 u1 => by
      obtain ⟨vs, M2, e1, e2, e3, e4⟩ := lc_draw (n := n) (Φ := run T (k + most + 3)) (M := M1) (M0 := M1) (ρ := [some (.ref n), some (.p (kindsD ks)), some (.p (.int a)), some (.p (.int most)), none, none, none, none, none]) (g := .nm 8) (own := [8]) (it := .range1) (src := .cons (.var 2) .nil) (elt := .bin .sub (.call "_law_roll" (.cons (.var 0) (.cons (.lit (.int 7)) .nil))) (.lit (.int 2))) (us := [.p (.int a)]) (enc := PyData.int) (Q := fun v => -9 ≤ v ∧ v ≤ 9) (ds := up 0 a) (by simp) (walk_range _ _ (by omega)) (fun _ => rfl) (by rw [sz]; simp [up]; omega) (.refl u1.cl u1.dc) fun d hd M3 u3 => by
        obtain ⟨r2, M4, p3, p4, u4, e2⟩ := r_roll (k := k + most + 1) L.toLDice u3.cl u3.dc (m := 7) (by decide) (by decide)
        exact ⟨_, r2 - 2, M4, rfl, by simp [wipeE, e2], by omega, u4⟩
      refine ⟨.leaf vs, M2, ?_, ?_, by simp [Tr.leaves]; omega, u1.trans e4⟩
      · simp only [x_cons, s_ret, e_tup, el_cons, e_lit, bind_okE, e_prim, e1, el_nil, vals_p, vals_nil, Option.map_some, Option.bind_some, p_tuple, seqD_l, lift_s, of_someE, Tr.enc]
        simp [hz2]
      · simp only [Tr.ok, Bool.and_eq_true, decide_eq_true_eq, List.all_eq_true]
        exact ⟨by rw [e2]; simp [up], e3⟩
    have hlenk : lenD (kindsD ks) = some (ks.length : Int) := lenD_k ks
    by_cases hm : most < 2
    · obtain ⟨t, M', q1, q2, q3, q4⟩ := leaf M (.refl hM hd)
      refine ⟨t, M', ?_, q2, q3, q4⟩
      have hm' : (most : Int) < 2 := by omega
      simp only [c_law_tree, List.map_cons, List.map_nil, List.length_cons, List.length_nil, Nat.reduceAdd, Nat.reduceSub, List.replicate, List.cons_append, List.nil_append] 
      rw [x_cons, s_iff]
      simp only [e_boo, b_or, e_cmp, e_var, look_z, look_s, e_lit, bind_okE, op2r_p, cop_lt, liftB_s, of_someE, hm', decide_true, brU_b, if_true, thn_okE, q1, sbind_ret, endD_ret]
      exact leave_cl q4.cl q4.len
    · have hm' : ¬ ((most : Int) < 2) := by omega
      obtain ⟨r0, M1, p1, p2, u1, e0⟩ := r_roll (k := k + most + 1) L.toLDice hM hd (m := 5) (by decide) (by decide)
      by_cases hr0 : r0 = 0
      · obtain ⟨t, M', q1, q2, q3, q4⟩ := leaf M1 u1
        refine ⟨t, M', ?_, q2, q3, q4⟩
        simp only [c_law_tree, List.map_cons, List.map_nil, List.length_cons, List.length_nil, Nat.reduceAdd, Nat.reduceSub, List.replicate, List.cons_append, List.nil_append] 
        rw [x_cons, s_iff]
        simp only [e_boo, b_or, b_nil, e_cmp, e_var, look_z, look_s, e_lit, bind_okE, op2r_p, cop_lt, liftB_s, of_someE, hm', decide_false, brU_b, Bool.false_eq_true, if_false, e_call, el_cons, el_nil, e0, cop_eq, eqD_ii, hr0, decide_true, if_true, thn_okE, q1, sbind_ret, endD_ret]
        exact leave_cl q4.cl q4.len
      · obtain ⟨pp, M2, p3, p4, u2, e1⟩ := r_roll (k := k + most + 1) L.toLDice u1.cl u1.dc (m := ks.length) (by omega) (by omega)
        obtain ⟨fw, M3, p5, p6, u3, e2⟩ := r_roll (k := k + most + 1) L.toLDice u2.cl u2.dc (m := (most : Int) - 1) (by omega) (by omega)
        obtain ⟨pa, pb, M4, e3, hpl, u4⟩ := r_place (k := k + most) L u3.cl u3.dc
        obtain ⟨p, rfl⟩ : ∃ p : Nat, pp = p := ⟨pp.toNat, by omega⟩
        obtain ⟨few, rfl⟩ : ∃ f : Nat, fw = f := ⟨fw.toNat, by omega⟩
        have hp : p < ks.length := by omega
        have hkat : L2.atI (ks.map PyData.str) (p : Int) = some (.str ks[p]) := by
          rw [atI_nat _ _ (by simpa using hp)]; simp [hp]
        have hkp : ks[p] ∈ DK := hks _ (List.getElem_mem hp)
        have hko := (DK_len _ hkp).2.2
        simp only [okKind, smS, Bool.and_eq_true] at hko
        have e00 := eqD_ss hko.1.2 ok0
        -- behind the test: two trees
        have rest : ∀ (M5 : Mem) (w : Str) (d : D), Up n M M5 → (∃ t0 : Tr → Tr → Tr, ∀ l r, Tr.enc (t0 l r) = .tuple [.str w, .int p, d, l.enc, r.enc] ∧ (l.ok ks a = true → r.ok ks a = true → (t0 l r).ok ks a = true) ∧ (t0 l r).leaves = l.leaves + r.leaves) →
            ∃ (t : Tr) (M' : Mem), exL (run T (k + most + 3)) (.cons (.asg (.nm 5) (.call "_law_tree" (.cons (.var 0) (.cons (.var 1) (.cons (.var 2) (.cons (.var 7) .nil)))))) (.cons (.ret (.bin .add (.var 4) (.tup (.cons (.var 5) (.cons (.call "_law_tree" (.cons (.var 0) (.cons (.var 1) (.cons (.var 2) (.cons (.bin .sub (.var 3) (.var 7)) .nil))))) .nil))))) .nil)) [some (.ref n), some (.p (kindsD ks)), some (.p (.int a)), some (.p (.int most)), some (.p (.tuple [.str w, .int p, d])), none, some (.p (.int p)), some (.p (.int ((1 + few : Nat) : Int))), none] M5 = .ret (.p (Tr.enc t)) M' ∧ t.ok ks a = true ∧ t.leaves ≤ most ∧ Up n M M' := fun M5 w d u5 ⟨t0, ht0⟩ => by
          obtain ⟨tl, M6, q1, q2, q3, q4⟩ := ih (1 + few) (by omega) (k + most - 1 - (1 + few)) M5 (by omega) (by omega) u5.cl u5.dc
          obtain ⟨tr, M7, q5, q6, q7, q8⟩ := ih (most - (1 + few)) (by omega) (k + (1 + few) - 1) M6 (by omega) (by omega) q4.cl q4.dc
          rw [show k + most - 1 - (1 + few) + (1 + few) + 4 = k + most + 3 by omega] at q1
          rw [show k + (1 + few) - 1 + (most - (1 + few)) + 4 = k + most + 3 by omega, show ((most - (1 + few) : Nat) : Int) = (most : Int) - ((1 + few : Nat) : Int) by omega] at q5
          refine ⟨t0 tl tr, M7, ?_, (ht0 tl tr).2.1 q2 q6, by rw [(ht0 tl tr).2.2]; omega, (u5.trans q4).trans q8⟩
          simp only [x_cons, s_asg, e_call, el_cons, el_nil, e_var, look_z, look_s, bind_okE, q1, thn_okE, List.set, sbind_next, s_ret, e_bin, e_tup, op2_p, bop_sub, lift_s, of_someE, q5]
          simp [hz2, hz5, (ht0 tl tr).1]
        have hstart : ∀ (X : SR), endD M.length false X = endD M.length false X := fun _ => rfl
        simp only [c_law_tree, List.map_cons, List.map_nil, List.length_cons, List.length_nil, Nat.reduceAdd, Nat.reduceSub, List.replicate, List.cons_append, List.nil_append] 
        rw [x_cons, s_iff]
        have hfew : (1 : Int) + (few : Int) = ((1 + few : Nat) : Int) := by omega
        by_cases hz : ks[p] = "0"
        · have e00 : eqD (.str ks[p]) (.str "0") = some true := by rw [e00, decide_eq_true hz]
          obtain ⟨t, M', g1, g2, g3, g4⟩ := rest M4 "below" (fr pa pb) (((u1.trans u2).trans u3).trans u4) ⟨fun l r => .bel p pa pb l r, fun l r => ⟨rfl, fun hl hr => by
            have : ks[p]? = some ("0" : Str) := by rw [List.getElem?_eq_getElem hp, hz]
            simp [Tr.ok, this, hpl.1, hl, hr], rfl⟩⟩
          refine ⟨t, M', ?_, g2, g3, g4⟩
          simp only [e_boo, b_or, b_nil, e_cmp, e_var, look_z, look_s, e_lit, bind_okE, op2r_p, cop_lt, liftB_s, of_someE, hm', decide_false, brU_b, Bool.false_eq_true, if_false, e_call, el_cons, el_nil, e0, cop_eq, eqD_ii, hr0, thn_okE, x_nil, sbind_next]
          rw [x_cons, s_par]
          simp only [e_call, el_cons, el_nil, e_prim, e_var, look_z, look_s, bind_okE, vals_p, vals_nil, Option.map_some, Option.bind_some, p_len, hlenk, lift_s, of_someE, e1, thn_okE, e_bin, e_lit, op2_p, bop_sub, e2, bop_add, hfew, List.set, sbind_next]
          rw [x_cons, s_asg]
          simp only [e_tup, el_cons, el_nil, e_lit, e_var, look_z, look_s, bind_okE, e_call, e3, mkT, pures_cons, pures_nil, Option.map_some, List.length_cons, List.length_nil, Nat.reduceAdd, hz3, if_true, thn_okE, List.set, sbind_next]
          rw [x_cons, s_iff]
          simp only [e_cmp, e_ix, e_var, look_z, look_s, bind_okE, ixU_p, ixD_k, hkat, Option.map_some, of_someE, e_lit, op2r_p, cop_ne, e00, liftB_s, thn_okE, brU_b, Bool.not_true, Bool.false_eq_true, if_false, x_nil, sbind_next, g1, endD_ret]
          exact leave_cl g4.cl g4.len
        · have e00 : eqD (.str ks[p]) (.str "0") = some false := by rw [e00, decide_eq_false hz]
          obtain ⟨mk, M5, e4, hmk, u5⟩ := r_marksD (k := k + most) L u4.cl u4.dc hkp hz
          obtain ⟨t, M', g1, g2, g3, g4⟩ := rest M5 "among" (.str mk) ((((u1.trans u2).trans u3).trans u4).trans u5) ⟨fun l r => .amo p mk l r, fun l r => ⟨rfl, fun hl hr => by
            have : ks[p]? = some ks[p] := List.getElem?_eq_getElem hp
            simp [Tr.ok, this, hmk, hl, hr], rfl⟩⟩
          refine ⟨t, M', ?_, g2, g3, g4⟩
          simp only [e_boo, b_or, b_nil, e_cmp, e_var, look_z, look_s, e_lit, bind_okE, op2r_p, cop_lt, liftB_s, of_someE, hm', decide_false, brU_b, Bool.false_eq_true, if_false, e_call, el_cons, el_nil, e0, cop_eq, eqD_ii, hr0, thn_okE, x_nil, sbind_next]
          rw [x_cons, s_par]
          simp only [e_call, el_cons, el_nil, e_prim, e_var, look_z, look_s, bind_okE, vals_p, vals_nil, Option.map_some, Option.bind_some, p_len, hlenk, lift_s, of_someE, e1, thn_okE, e_bin, e_lit, op2_p, bop_sub, e2, bop_add, hfew, List.set, sbind_next]
          rw [x_cons, s_asg]
          simp only [e_tup, el_cons, el_nil, e_lit, e_var, look_z, look_s, bind_okE, e_call, e3, mkT, pures_cons, pures_nil, Option.map_some, List.length_cons, List.length_nil, Nat.reduceAdd, hz3, if_true, thn_okE, List.set, sbind_next]
          rw [x_cons, s_iff]
          have hthen : exL (run T (k + most + 3)) (.cons (.asg (.nm 4) (.tup (.cons (.lit (.str "among")) (.cons (.var 6) (.cons (.call "_law_some_marks" (.cons (.var 0) (.cons (.ix (.var 1) (.var 6)) .nil))) .nil))))) .nil) [some (.ref n), some (.p (kindsD ks)), some (.p (.int a)), some (.p (.int most)), some (.p (.tuple [.str "below", .int p, fr pa pb])), none, some (.p (.int p)), some (.p (.int ((1 + few : Nat) : Int))), none] M4 = .next [some (.ref n), some (.p (kindsD ks)), some (.p (.int a)), some (.p (.int most)), some (.p (.tuple [.str "among", .int p, .str mk])), none, some (.p (.int p)), some (.p (.int ((1 + few : Nat) : Int))), none] M5 := by
            simp only [x_cons, s_asg, e_tup, el_cons, el_nil, e_lit, e_var, look_z, look_s, bind_okE, e_call, e_ix, ixU_p, ixD_k, hkat, Option.map_some, of_someE, e4, mkT, pures_cons, pures_nil, List.length_cons, List.length_nil, Nat.reduceAdd, hz3, if_true, thn_okE, List.set, sbind_next, x_nil]
          simp only [e_cmp, e_ix, e_var, look_z, look_s, bind_okE, ixU_p, ixD_k, hkat, Option.map_some, of_someE, e_lit, op2r_p, cop_ne, e00, liftB_s, thn_okE, brU_b, Bool.not_false, if_true, hthen, sbind_next, g1, endD_ret]
          exact leave_cl g4.cl g4.len
end
end VW
end
section
/-! Drawn forests and inputs. -/
namespace VW
open PySem
structure LInpD (T : Tb) : Prop extends LDraw T where
  input : T.lookup ("_law_input" : Str) = some c_law_input
/-- a drawn forest -/
structure Fo.Dr (f : Fo) (trees leaves : Nat) : Prop where
  kk : ∀ x ∈ f.kinds, x ∈ DK
  k1 : 1 ≤ f.kinds.length
  k3 : f.kinds.length ≤ 3
  n2 : 2 ≤ f.n
  n3 : f.n ≤ 3
  t1 : 1 ≤ f.ts.length
  t4 : f.ts.length ≤ trees
  tt : ∀ t ∈ f.ts, t.ok f.kinds f.n = true
  tl : ∀ t ∈ f.ts, t.leaves ≤ leaves
theorem Fo.Dr.ok {f : Fo} {trees leaves : Nat} (h : f.Dr trees leaves) (h4 : trees ≤ 4) (h8 : leaves ≤ 8) : f.Ok :=
  ⟨h.k1, h.k3, fun k hk => (DK_len k (h.kk k hk)).2.2, h.n2, h.n3, h.t1, by have := h.t4; omega, h.tt, fun t ht => by have := h.tl t ht; have := t.depth_lt; omega⟩
section
variable {T : Tb} {k : Nat} {M : Mem} {n : Nat}
theorem r_forest_of (L : LDraw T) (hM : Cl M) (hd : DC M n) {ks : List Str} (hks : ∀ x ∈ ks, x ∈ DK) (hk1 : 1 ≤ ks.length) (hk3 : ks.length ≤ 3) {a trees leaves : Nat} (ha2 : 2 ≤ a) (ha : a ≤ 3) (ht1 : 1 ≤ trees) (ht : trees ≤ 10) (hl1 : 1 ≤ leaves) (hl : leaves ≤ 10) :
    ∃ (f : Fo) (M' : Mem), run T (k + 16) "_law_forest_of" [.ref n, .p (kindsD ks), .p (.int a), .p (.int trees), .p (.int leaves)] M = .ok (.p f.enc) M' ∧ f.Dr trees leaves ∧ f.kinds = ks ∧ f.n = a ∧ Up n M M' := by
  obtain ⟨r1, M1, p1, p2, u1, e1⟩ := r_roll (k := k + 13) L.toLDice hM hd (m := trees) (by omega) (by omega)
  obtain ⟨j, rfl⟩ : ∃ j : Nat, r1 = j := ⟨r1.toNat, by omega⟩
  obtain ⟨ts, M2, h1, h2, h3, h4⟩ := lc_draw (n := n) (Φ := run T (k + 15)) (M := M1) (M0 := M) (ρ := [some (.ref n), some (.p (kindsD ks)), some (.p (.int a)), some (.p (.int trees)), some (.p (.int leaves)), none, none]) (g := .nm 6) (own := [6]) (it := .range1) (src := .cons (.bin .add (.lit (.int 1)) (.call "_law_roll" (.cons (.var 0) (.cons (.var 3) .nil)))) .nil) (elt := .call "_law_tree" (.cons (.var 0) (.cons (.var 1) (.cons (.var 2) (.cons (.bin .add (.lit (.int 1)) (.call "_law_roll" (.cons (.var 0) (.cons (.var 4) .nil)))) .nil))))) (us := [.p (.int ((1 + j : Nat) : Int))]) (enc := Tr.enc) (Q := fun t => t.ok ks a = true ∧ t.leaves ≤ leaves) (ds := up 0 (1 + j)) (by
      simp only [el_cons, el_nil, e_bin, e_lit, e_call, e_var, look_z, look_s, bind_okE, e1, op2_p, bop_add, lift_s, of_someE]
      congr 4) (walk_range _ _ (by omega)) (fun _ => rfl) (by rw [sz]; simp [up]; omega) (.refl u1.cl u1.dc) fun d hd M3 u3 => by
    obtain ⟨r2, M4, p3, p4, u4, e2⟩ := r_roll (k := k + 13) L.toLDice u3.cl u3.dc (m := leaves) (by omega) (by omega)
    obtain ⟨i, rfl⟩ : ∃ j : Nat, r2 = j := ⟨r2.toNat, by omega⟩
    obtain ⟨t, M5, q1, q2, q3, q4⟩ := r_treeD (n := n) L hks hk1 hk3 ha2 ha (1 + i) (k + 10 - i) M4 (by omega) (by omega) u4.cl u4.dc
    rw [show k + 10 - i + (1 + i) + 4 = k + 15 by omega] at q1
    have hi : (1 : Int) + (i : Int) = ((1 + i : Nat) : Int) := by omega
    refine ⟨_, t, M5, rfl, ?_, ⟨q2, by omega⟩, u4.trans q4⟩
    simp only [wipeE, List.set, e_call, el_cons, el_nil, e_var, look_z, look_s, bind_okE, e_bin, e_lit, e2, op2_p, bop_add, lift_s, of_someE, hi, q1]
  refine ⟨⟨ks, a, ts⟩, M2, ?_, ⟨hks, hk1, hk3, ha2, ha, by show 1 ≤ ts.length; rw [h2]; simp [up], by show ts.length ≤ trees; rw [h2]; simp [up]; omega, fun t ht => (h3 t ht).1, fun t ht => (h3 t ht).2⟩, rfl, rfl, u1.trans h4⟩
  rw [run_e L.forest_of _ _ _ rfl]
  have hz3 : (3 : Nat) ≤ sizeLine := by rw [sz]; omega
  simp only [c_law_forest_of, List.map_cons, List.map_nil, List.length_cons, List.length_nil, Nat.reduceAdd, Nat.reduceSub, List.replicate, List.cons_append, List.nil_append, x_cons, s_asg, h1, thn_okE, List.set, sbind_next, s_ret, e_tup, el_cons, el_nil, e_var, look_z, look_s, bind_okE, e_prim, vals_p, vals_nil, Option.map_some, Option.bind_some, p_tuple, seqD_l, lift_s, of_someE, mkT, pures_cons, pures_nil, hz3, if_true, sbind_ret, endD_ret]
  exact leave_cl h4.cl (by rw [h4.len, u1.len])
theorem r_forestD (L : LDraw T) (hM : Cl M) (hd : DC M n) {trees leaves : Nat} (ht1 : 1 ≤ trees) (ht : trees ≤ 10) (hl1 : 1 ≤ leaves) (hl : leaves ≤ 10) :
    ∃ (f : Fo) (M' : Mem), run T (k + 17) "_law_forest" [.ref n, .p (.int trees), .p (.int leaves)] M = .ok (.p f.enc) M' ∧ f.Dr trees leaves ∧ Up n M M' := by
  obtain ⟨ks, M1, e1, q1, q2, q3, u1⟩ := r_kinds (k := k + 13) L hM hd
  obtain ⟨r2, M2, p3, p4, u2, e2⟩ := r_roll (k := k + 14) L.toLDice u1.cl u1.dc (m := 2) (by decide) (by decide)
  obtain ⟨i, rfl⟩ : ∃ j : Nat, r2 = j := ⟨r2.toNat, by omega⟩
  obtain ⟨f, M3, e3, h1, h2, h3, u3⟩ := r_forest_of (k := k) L u2.cl u2.dc q3 q1 q2 (a := 2 + i) (by omega) (by omega) ht1 ht hl1 hl
  refine ⟨f, M3, ?_, h1, (u1.trans u2).trans u3⟩
  rw [run_e L.forest _ _ _ rfl]
  have hi : (2 : Int) + (i : Int) = ((2 + i : Nat) : Int) := by omega
  simp only [c_law_forest, List.map_cons, List.map_nil, List.length_cons, List.length_nil, Nat.reduceAdd, Nat.reduceSub, List.replicate, List.cons_append, List.nil_append, x_cons, s_ret, e_call, el_cons, el_nil, e_var, look_z, look_s, bind_okE, e1, e_bin, e_lit, e2, op2_p, bop_add, lift_s, of_someE, hi, e3, thn_okE, sbind_ret, endD_ret]
  exact leave_cl u3.cl (by rw [u3.len, u2.len, u1.len])
/-! ### inputs -/
def Vl.near : Vl → Prop
  | .fr a b => -40 ≤ a ∧ a ≤ 40 ∧ 1 ≤ b ∧ b ≤ 7
  | .mk _ => True
theorem cl_take {M M' : Mem} {c : Cell} {n : Nat} (hM : Cl M) (hd : DC M n) (u : Up n (M ++ [c]) M') : Up n M (M'.take M.length) := by
  have hl : M'.length = M.length + 1 := by rw [u.len]; simp
  have hlt : (M'.take M.length).length = M.length := by rw [List.length_take]; omega
  obtain ⟨a0, b0, h0⟩ := hd
  have hn : n < M.length := (List.getElem?_eq_some_iff.mp h0).1
  obtain ⟨a, b, hab⟩ := u.dc
  have hth : ∀ i, i ≠ n → (M'.take M.length)[i]? = M[i]? := fun i hi => by
    by_cases hlt2 : i < M.length
    · rw [List.getElem?_take_of_lt hlt2, u.oth i hi, List.getElem?_append_left hlt2]
    · rw [List.getElem?_eq_none (by omega), List.getElem?_eq_none (by omega)]
  have hnn : (M'.take M.length)[n]? = some (.pl [.int a, .int b]) := by rw [List.getElem?_take_of_lt hn]; exact hab
  refine ⟨?_, ⟨a, b, hnn⟩, hlt, hth⟩
  unfold Cl at *
  rw [List.all_eq_true] at *
  intro x hx
  rw [hlt]
  obtain ⟨i, hi, e⟩ := List.mem_iff_getElem.mp hx
  by_cases hin : i = n
  · have : (M'.take M.length)[i]? = some x := by rw [List.getElem?_eq_getElem hi, e]
    rw [hin, hnn] at this
    cases this; rfl
  · have : (M'.take M.length)[i]? = some x := by rw [List.getElem?_eq_getElem hi, e]
    rw [hth i hin] at this
    exact hM x (List.mem_of_getElem? this)
theorem leave_take {M' : Mem} {m : Nat} {d : D} (h : Cl (M'.take m)) (hl : (M'.take m).length = m) : leave m false (.p d) M' = .ok (.p d) (M'.take m) := by
  unfold leave Cl at *
  rw [hl] at h
  simp [h, frz]
theorem cl_app {M : Mem} {ds : List D} (h : Cl M) : Cl (M ++ [.pl ds]) := by
  unfold Cl at *
  rw [List.all_eq_true] at *
  intro c hc
  have key : ∀ c : Cell, c.below M.length = true → c.below (M ++ [Cell.pl ds]).length = true := fun c hb => by
    have hle : M.length ≤ (M ++ [Cell.pl ds]).length := by simp
    have hu : ∀ u : U, u.below M.length = true → u.below (M ++ [Cell.pl ds]).length = true := fun u hu => by
      cases u with
      | p _ => rfl
      | ref m => simp only [U.below, decide_eq_true_eq] at hu ⊢; omega
      | rl ns =>
        simp only [U.below, List.all_eq_true, decide_eq_true_eq] at hu ⊢
        intro x hx; have := hu x hx; omega
      | scr _ => rfl
    cases c with
    | pl _ => rfl
    | rl ns =>
      simp only [Cell.below, List.all_eq_true, decide_eq_true_eq] at hb ⊢
      intro x hx; have := hb x hx; omega
    | dct _ => rfl
    | ins _ fs =>
      simp only [Cell.below, List.all_eq_true] at hb ⊢
      intro x hx; exact hu _ (hb x hx)
    | tab _ _ => rfl
  rcases List.mem_append.mp hc with hc | hc
  · exact key c (h c hc)
  · rw [List.mem_singleton.mp hc]; rfl
theorem dc_app {M : Mem} {c : Cell} (h : DC M n) : DC (M ++ [c]) n := by
  obtain ⟨a, b, h0⟩ := h
  exact ⟨a, b, by rw [List.getElem?_append_left (List.getElem?_eq_some_iff.mp h0).1]; exact h0⟩
/-- a cell behind the dice is changed -/
theorem up_put {M M' : Mem} {c c' : Cell} (hM : Cl M) (hd : DC M n) (u : Up n (M ++ [c]) M') (hb : ∃ ds, c' = .pl ds) : Up n (M ++ [c']) (M'.set M.length c') := by
  obtain ⟨ds, rfl⟩ := hb
  have hl : M'.length = M.length + 1 := by rw [u.len]; simp
  obtain ⟨a0, b0, h0⟩ := hd
  have hn : n < M.length := (List.getElem?_eq_some_iff.mp h0).1
  obtain ⟨a, b, hab⟩ := u.dc
  refine ⟨cl_set u.cl, ⟨a, b, by rw [List.getElem?_set_ne (by omega)]; exact hab⟩, by simp [hl], fun i hi => ?_⟩
  by_cases he : i = M.length
  · subst he
    rw [List.getElem?_set_self (by omega)]
    simp
  · rw [List.getElem?_set_ne (fun z => he z.symm), u.oth i hi]
    by_cases hlt : i < M.length
    · rw [List.getElem?_append_left hlt, List.getElem?_append_left hlt]
    · rw [List.getElem?_eq_none (by simp; omega), List.getElem?_eq_none (by simp; omega)]
theorem e_app {Φ : Fn} {ρ : Env} {M : Mem} (o e : CE) : exS Φ (.app o e) ρ M = (evE Φ o ρ M).thn fun x M => match x with
    | .ref n => if isLstC M[n]? = true then (evE Φ e ρ M).thn fun y M => match appC M[n]? y with
      | some c => .next ρ (M.set n c)
      | none => .bad else .bad
    | _ => .bad := by simp only [exS] <;> congr
theorem pl_okFr {a b : Int} (h : Pl a b) : okFr a b = true ∧ (Vl.fr a b).near := by
  obtain ⟨h1, h2, h3, h4⟩ := h
  simp only [okPl, Bool.and_eq_true, decide_eq_true_eq] at h1
  have hbN : bigN = 1000000000000 := rfl
  simp only [okFr, Bool.and_eq_true, decide_eq_true_eq, Vl.near]
  exact ⟨⟨by omega, by omega, h1.2.2⟩, by omega⟩
theorem r_inputD (L : LInpD T) (hM : Cl M) (hd : DC M n) {ks : List Str} (hks : ∀ x ∈ ks, x ∈ DK) (hk3 : ks.length ≤ 3) : ∃ (vs : List Vl) (M' : Mem), run T (k + 4) "_law_input" [.ref n, .p (kindsD ks)] M = .ok (.p (inpD vs)) M' ∧ okIn ks vs = true ∧ (∀ v ∈ vs, v.near) ∧ Up n M M' := by
  rw [run_e L.input _ _ _ rfl]
  simp only [c_law_input, List.map_cons, List.map_nil, List.length_cons, List.length_nil, Nat.reduceAdd, Nat.reduceSub, List.replicate, List.cons_append, List.nil_append, x_cons, s_new, e_lst, el_nil, bind_okE, List.length_nil, Nat.zero_le, if_true, mkL_nil, of_someE, thn_okE, newU_l, List.set, sbind_next, s_for, el_cons, e_var, look_z, look_s]
  have hw : walk (M ++ [.pl []]) .seq [.p (kindsD ks)] = some ((ks.map .str).map .p) := by unfold kindsD; rw [walk_seqT]
  rw [hw]
  generalize hb : (exL (run T (k + 3)) (CSs.cons _ CSs.nil) : Env → Mem → SR) = b
  have hone : ∀ (x : Str), x ∈ DK → ∀ (acc : List D) (M1 : Mem) (o3 o4 : Option U), acc.length ≤ 100 → Up n (M ++ [.pl acc]) M1 → ∃ (v : Vl) (M2 : Mem) (o4' : Option U), b [some (.ref n), some (.p (kindsD ks)), some (.ref M.length), some (.p (.str x)), o4] M1 = .next [some (.ref n), some (.p (kindsD ks)), some (.ref M.length), some (.p (.str x)), o4'] M2 ∧ v.ok x = true ∧ v.near ∧ Up n (M ++ [.pl (acc ++ [v.enc])]) M2 := by
    intro x hx acc M1 o3 o4 hacc u
    obtain ⟨hl4, hl1, hxk⟩ := DK_len x hx
    simp only [okKind, smS, Bool.and_eq_true] at hxk
    have e00 := eqD_ss hxk.1.2 ok0
    obtain ⟨a0, b0, h0⟩ := hd
    have hn : n < M.length := (List.getElem?_eq_some_iff.mp h0).1
    have hat : ∀ M2, Up n M1 M2 → M2[M.length]? = some (.pl acc) := fun M2 u2 => by
      rw [u2.oth _ (by omega), u.oth _ (by omega)]; simp
    have hsz : acc.length < sizeLine := by rw [sz]; omega
    have happ : ∀ M2, Up n M1 M2 → ∀ d : D, appC M2[M.length]? (.p d) = some (.pl (acc ++ [d])) := fun M2 u2 d => by
      rw [hat M2 u2]; simp [appC, hsz]
    have hlst : isLstC M1[M.length]? = true := by rw [hat M1 (.refl u.cl u.dc)]; rfl
    by_cases hz : x = "0"
    · have e00 : eqD (.str x) (.str "0") = some true := by rw [e00, decide_eq_true hz]
      obtain ⟨a, b', M2, e1, hpl, u1⟩ := r_place (k := k) L.toLDraw u.cl u.dc
      obtain ⟨r1, M3, p1, p2, u2, e2⟩ := r_roll (k := k + 1) L.toLDice u1.cl u1.dc (m := 81) (by decide) (by decide)
      obtain ⟨r2, M4, p3, p4, u3, e3⟩ := r_roll (k := k + 1) L.toLDice u2.cl u2.dc (m := 7) (by decide) (by decide)
      obtain ⟨i, rfl⟩ : ∃ j : Nat, r2 = j := ⟨r2.toNat, by omega⟩
      have hi : (1 : Int) + (i : Int) = ((1 + i : Nat) : Int) := by omega
      have e4 := r_low (k := k + 2) L.low u3.cl (t := r1 - 40) (b := 1 + i) (by omega) (small1000 (by omega))
      obtain ⟨r3, M5, p5, p6, u4, e5⟩ := r_roll (k := k + 1) L.toLDice u3.cl u3.dc (m := 2) (by decide) (by decide)
      have hfr := low_fr (t := r1 - 40) (b := 1 + i) (by omega) (by omega) (by omega) (by omega)
      have hlb := low_bounds (t := r1 - 40) (b := 1 + i) (by omega)
      obtain ⟨v, hv1, hv2, hv3⟩ : ∃ v : Vl, L2.atI [fr a b', fr ((r1 - 40) / ((r1 - 40).natAbs.gcd (1 + i) : Nat)) (((1 + i) / (r1 - 40).natAbs.gcd (1 + i) : Nat) : Int)] r3 = some v.enc ∧ v.ok x = true ∧ v.near := by
        have : r3 = 0 ∨ r3 = 1 := by omega
        rcases this with rfl | rfl
        · exact ⟨.fr a b', by simp [Vl.enc], by simp [Vl.ok, hz, (pl_okFr hpl).1], (pl_okFr hpl).2⟩
        · refine ⟨.fr _ _, by simp only [atI_1, Vl.enc]; rfl, by simp only [Vl.ok, hz, decide_true, Bool.true_and]; exact hfr, ?_⟩
          simp only [Vl.near]; omega
      have hu5 := ((u1.trans u2).trans u3).trans u4
      refine ⟨v, M5.set M.length (.pl (acc ++ [v.enc])), some (.p (.list [fr a b', fr ((r1 - 40) / ((r1 - 40).natAbs.gcd (1 + i) : Nat)) (((1 + i) / (r1 - 40).natAbs.gcd (1 + i) : Nat) : Int)])), ?_, hv2, hv3, up_put hM ⟨a0, b0, h0⟩ (u.trans hu5) ⟨_, rfl⟩⟩
      rw [← hb]
      have hz2 : (2 : Nat) ≤ sizeLine := by rw [sz]; omega
      have hlst5 : isLstC M4[M.length]? = true := by rw [hat M4 ((u1.trans u2).trans u3)]; rfl
      simp only [x_cons, s_iff, e_cmp, e_var, look_z, look_s, e_lit, bind_okE, op2r_p, cop_eq, e00, liftB_s, of_someE, thn_okE, brU_b, if_true, s_asg, e_lst, el_cons, el_nil, e_call, e1, e_bin, e2, op2_p, bop_sub, lift_s, e3, bop_add, hi, e4, List.length_cons, List.length_nil, Nat.reduceAdd, hz2, mkL, pures_cons, pures_nil, Option.map_some, List.set, sbind_next, e_app, hlst5, e_ix, e5, ixU_p, ixD_l, hv1, happ M5 hu5, x_nil]
    · have e00 : eqD (.str x) (.str "0") = some false := by rw [e00, decide_eq_false hz]
      obtain ⟨r2, M2, p3, p4, u2, e2⟩ := r_roll (k := k + 1) L.toLDice u.cl u.dc (m := x.length) (by omega) (by omega)
      obtain ⟨j, rfl⟩ : ∃ j : Nat, r2 = j := ⟨r2.toNat, by omega⟩
      have hj2 : j < x.cps.toList.length := by rw [Array.length_toList]; have : x.length = x.cps.size := rfl; omega
      have hxl : x.length ≤ sizeLine := by rw [sz]; omega
      have hix : ixD (.str x) (.int j) = some (.str ⟨#[x.cps.toList[j]]⟩) := by
        show (if x.length ≤ sizeLine then (L2.atI x.cps.toList (j : Int)).map fun c => PyData.str ⟨#[c]⟩ else none) = _
        rw [if_pos hxl, atI_nat _ _ hj2, List.getElem?_eq_getElem hj2]; rfl
      have hlen : lenD (.str x) = some (x.length : Int) := by simp [lenD, hxl]
      refine ⟨.mk ⟨#[x.cps.toList[j]]⟩, M2.set M.length (.pl (acc ++ [.str ⟨#[x.cps.toList[j]]⟩])), o4, ?_, (DK_one x hx hz _ (List.getElem_mem hj2)).2, trivial, up_put hM ⟨a0, b0, h0⟩ (u.trans u2) ⟨_, rfl⟩⟩
      rw [← hb]
      simp only [x_cons, s_iff, e_cmp, e_var, look_z, look_s, e_lit, bind_okE, op2r_p, cop_eq, e00, liftB_s, of_someE, thn_okE, brU_b, Bool.false_eq_true, if_false, e_app, hlst, if_true, e_ix, e_call, el_cons, el_nil, e_prim, vals_p, vals_nil, Option.map_some, Option.bind_some, p_len, hlen, lift_s, e2, ixU_p, hix, happ M2 u2, x_nil, sbind_next]
  have key : ∀ (ys : List Str) (vs : List Vl) (M1 : Mem) (o3 o4 : Option U), (∀ x ∈ ys, x ∈ DK) → vs.length + ys.length ≤ 100 → Up n (M ++ [.pl (vs.map Vl.enc)]) M1 → ∃ (ws : List Vl) (M2 : Mem) (o3' o4' : Option U), forF (fun M1 => stands (M ++ [.pl []]) M1 [.p (kindsD ks)]) (.nm 3) b ((ys.map .str).map .p) [some (.ref n), some (.p (kindsD ks)), some (.ref M.length), o3, o4] M1 = .next [some (.ref n), some (.p (kindsD ks)), some (.ref M.length), o3', o4'] M2 ∧ okIn ys ws = true ∧ (∀ v ∈ ws, v.near) ∧ Up n (M ++ [.pl ((vs ++ ws).map Vl.enc)]) M2 := by
    intro ys
    induction ys with
    | nil =>
      intro vs M1 o3 o4 _ _ u
      exact ⟨[], M1, o3, o4, by simp [forF], rfl, (fun v h => nomatch h), by simpa using u⟩
    | cons y ys ih =>
      intro vs M1 o3 o4 hy hl u
      simp only [List.length_cons] at hl
      obtain ⟨v, M2, o4', h1, h2, h3, h4⟩ := hone y (hy y List.mem_cons_self) (vs.map Vl.enc) M1 o3 o4 (by simp; omega) u
      obtain ⟨ws, M3, o3', o4'', h5, h6, h7, h8⟩ := ih (vs ++ [v]) M2 (some (.p (.str y))) o4' (fun x hx => hy x (List.mem_cons_of_mem _ hx)) (by simp; omega) (by simpa using h4)
      refine ⟨v :: ws, M3, o3', o4'', ?_, by simp [okIn, h2, h6], fun w hw => (List.mem_cons.mp hw).elim (fun e => e ▸ h3) (h7 w), by simpa using h8⟩
      simp only [List.map_cons, forF, stands_p, if_true, put]
      have hset : ([some (.ref n), some (.p (kindsD ks)), some (.ref M.length), o3, o4] : Env).set 3 (some (.p (.str y))) = [some (.ref n), some (.p (kindsD ks)), some (.ref M.length), some (.p (.str y)), o4] := rfl
      rw [hset, h1]
      simp only [sbind_next]
      exact h5
  obtain ⟨ws, M2, o3', o4', h1, h2, h3, h4⟩ := key ks [] (M ++ [.pl []]) none none hks (by simp; omega) (.refl (cl_app hM) (dc_app hd))
  have hut := cl_take hM hd h4
  refine ⟨ws, M2.take M.length, ?_, h2, h3, hut⟩
  have hrd : rdv M2 (.ref M.length) = some (.list (ws.map Vl.enc)) := by
    obtain ⟨a0, b0, h0⟩ := hd
    have hn : n < M.length := (List.getElem?_eq_some_iff.mp h0).1
    refine rdv_ref ?_
    rw [h4.oth _ (by omega)]
    simp
  have hvals : vals M2 [.ref M.length] = some [.list (ws.map Vl.enc)] := by simp [vals, hrd]
  simp only [h1, sbind_next, x_cons, s_ret, e_prim, el_cons, el_nil, e_var, look_z, look_s, bind_okE, hvals, Option.bind_some, p_tuple, seqD_l, Option.map_some, lift_s, of_someE, thn_okE, sbind_ret, endD_ret]
  exact leave_take hut.cl hut.len
end
end VW
end
section
/-! votes, answer, gap; the law's own answer; the rounds. -/
namespace VW
open PySem
structure LVot (T : Tb) : Prop extends LRun T where
  votes : T.lookup ("votes" : Str) = some c_votes
  answer : T.lookup ("answer" : Str) = some c_answer
  gap : T.lookup ("gap" : Str) = some c_gap
theorem head_filter {vs : List Int} {p : Int → Bool} : ∀ {j : Nat}, findIx p vs = some j → ∃ rest, (List.range vs.length).filter (fun i => p (vs.getD i 0)) = j :: rest := by
  induction vs with
  | nil => intro j h; cases h
  | cons v vs ih =>
    intro j h
    simp only [List.length_cons, List.range_succ_eq_map, List.filter_cons, List.getD_cons_zero]
    cases hp : p v with
    | true =>
      simp only [findIx, hp, if_true, Option.some.injEq] at h
      subst h
      exact ⟨_, by simp; rfl⟩
    | false =>
      simp only [findIx, hp, Bool.false_eq_true, if_false] at h
      cases hf : findIx p vs with
      | none => rw [hf] at h; cases h
      | some i =>
        rw [hf] at h
        simp only [Option.map_some, Option.some.injEq] at h
        obtain ⟨rest, hr⟩ := ih hf
        refine ⟨rest.map (· + 1), ?_⟩
        simp only [Bool.false_eq_true, if_false, List.filter_map]
        have : ((fun i => p ((v :: vs).getD i 0)) ∘ Nat.succ) = fun i => p (vs.getD i 0) := by funext i; simp
        rw [this, hr, ← h]
        rfl
def Fo.ans (f : Fo) (xs : List Vl) : Nat := firstMax (f.votes xs)
section
variable {T : Tb} {k : Nat} {M : Mem} {n : Nat}
theorem Fo.votes_len (f : Fo) (xs : List Vl) : (f.votes xs).length = f.n := votesF_len _ _ _
theorem Fo.Ru.vne {f : Fo} (h : f.Ru) (xs : List Vl) : f.votes xs ≠ [] := fun z => by
  have := f.votes_len xs
  rw [z] at this
  have := h.n2
  simp at *
  omega
theorem r_lanswer (L : LLaw T) (h : T.lookup ("_law_answer" : Str) = some c_law_answer) (hM : Cl M) {f : Fo} (hf : f.Ru) {xs : List Vl} (hi : okIn f.kinds xs = true) : run T (k + 4) "_law_answer" [.p f.enc, .p (inpD xs)] M = .ok (.p (.int (f.ans xs : Nat))) M := by
  rw [run_e h _ _ _ rfl]
  have hv := r_lvotes (k := k) L hM hf hi
  have hne := hf.vne xs
  have hn3 := hf.n3
  have hlen := f.votes_len xs
  have lc : evE (run T (k + 3)) (.lc (.tp [3, 4]) [3, 4] .enum (.cons (.var 2) .nil) (.cons (.cmp .eq (.var 4) (.prim .max (.cons (.var 2) .nil))) .nil) (.var 3)) [some (.p f.enc), some (.p (inpD xs)), some (.p (.tuple ((f.votes xs).map .int))), none, none] M = .ok (.p (.list (((List.range (f.votes xs).length).filter fun j => decide ((f.votes xs).getD j 0 = topI (f.votes xs))).map fun j => .int ((0 + j : Nat) : Int)))) M := by
    refine lc_filterA (e := fun j : Nat => PyData.tuple [.int ((0 + j : Nat) : Int), .int ((f.votes xs).getD j 0)]) (us := [.p (.tuple ((f.votes xs).map .int))]) (by simp) (by rw [walk_enumT, pair_map]) (by simp) (by rw [sz]; simp; omega) fun j hj => ⟨_, rfl, ?_, fun _ => ?_⟩
    · simp [wipeE, maxI_top hne]
    · simp [wipeE]
  obtain ⟨rest, hr⟩ := head_filter (firstMax_some hne)
  rw [hr] at lc
  simp only [c_law_answer, List.map_cons, List.map_nil, List.length_cons, List.length_nil, Nat.reduceAdd, Nat.reduceSub, List.replicate, List.cons_append, List.nil_append, x_cons, s_asg, e_call, el_cons, el_nil, e_var, look_z, look_s, bind_okE, hv, thn_okE, List.set, sbind_next, s_ret, e_ix, lc, e_lit, ixU_p, ixD_l, atI_0, Option.map_some, of_someE, sbind_ret, endD_ret, Nat.zero_add]
  exact leave_same hM
theorem r_votes (L : LVot T) (hM : Cl M) {f : Fo} (hf : f.Ok) {xs : List Vl} (hi : okIn f.kinds xs = true) : run T (k + 16) "votes" [.p f.enc, .p (inpD xs)] M = .ok (.p (.tuple ((f.votes xs).map .int))) M := by
  rw [run_e L.votes _ _ _ rfl]
  have h1 := r_needI (k := k) L.toLInp hM hf (okIn_sm hi hf.k3)
  rw [okIn_is hi, if_pos rfl] at h1
  have h2 : run T (k + 15) "votes_of" _ M = _ := r_votes_of (k := k + 12) L.toLRun hM hf.ru hi
  simp only [c_votes, List.map_cons, List.map_nil, List.length_cons, List.length_nil, Nat.reduceAdd, Nat.reduceSub, List.replicate, List.cons_append, List.nil_append, x_cons, s_exp, e_call, el_cons, el_nil, e_var, look_z, look_s, bind_okE, h1, thn_okE, sbind_next, s_ret, h2, sbind_ret, endD_ret]
  exact leave_same hM
theorem r_answer (L : LVot T) (hM : Cl M) {f : Fo} (hf : f.Ok) {xs : List Vl} (hi : okIn f.kinds xs = true) : run T (k + 16) "answer" [.p f.enc, .p (inpD xs)] M = .ok (.p (.int (f.ans xs : Nat))) M := by
  rw [run_e L.answer _ _ _ rfl]
  have h1 := r_needI (k := k) L.toLInp hM hf (okIn_sm hi hf.k3)
  rw [okIn_is hi, if_pos rfl] at h1
  have h2 : run T (k + 15) "votes_of" _ M = _ := r_votes_of (k := k + 12) L.toLRun hM hf.ru hi
  have h3 : run T (k + 15) "first_greatest" _ M = _ := r_first (k := k + 14) L.first_greatest hM (hf.ru.vne xs)
  simp only [c_answer, List.map_cons, List.map_nil, List.length_cons, List.length_nil, Nat.reduceAdd, Nat.reduceSub, List.replicate, List.cons_append, List.nil_append, x_cons, s_exp, e_call, el_cons, el_nil, e_var, look_z, look_s, bind_okE, h1, thn_okE, sbind_next, s_ret, h2, h3, sbind_ret, endD_ret]
  exact leave_same hM
/-- the gap of some votes: the last two of them sorted -/
def gapD (vs : List Int) : Option D := match L2.atI ((sortI vs).map PyData.int) (-1), L2.atI ((sortI vs).map PyData.int) (-2) with
  | some (.int a), some (.int b) => some (.int (a - b))
  | _, _ => none
theorem insI_len (x : Int) : ∀ xs : List Int, (insI x xs).length = xs.length + 1
  | [] => rfl
  | y :: ys => by unfold insI; split <;> simp [insI_len x ys]
theorem sortI_len (xs : List Int) : (sortI xs).length = xs.length := by
  unfold sortI
  induction xs with
  | nil => rfl
  | cons x xs ih => rw [List.foldr_cons, insI_len, ih]; rfl
theorem sort_two {vs : List Int} (h : 2 ≤ vs.length) : ∃ a b, L2.atI ((sortI vs).map PyData.int) (-1) = some (.int a) ∧ L2.atI ((sortI vs).map PyData.int) (-2) = some (.int b) := by
  have hl := sortI_len vs
  have h1 : (-1 : Int) + ((sortI vs).map PyData.int).length = (((sortI vs).length - 1 : Nat) : Int) := by simp; omega
  have h2 : (-2 : Int) + ((sortI vs).map PyData.int).length = (((sortI vs).length - 2 : Nat) : Int) := by simp; omega
  have q1 : (sortI vs).length - 1 < (sortI vs).length := by omega
  have q2 : (sortI vs).length - 2 < (sortI vs).length := by omega
  refine ⟨(sortI vs)[(sortI vs).length - 1], (sortI vs)[(sortI vs).length - 2], ?_, ?_⟩
  · unfold L2.atI L2.ixN
    rw [if_neg (by omega), if_pos (by simp; omega), h1]
    simp [q1]
  · unfold L2.atI L2.ixN
    rw [if_neg (by omega), if_pos (by simp; omega), h2]
    simp [q2]
theorem r_gap (L : LVot T) (hM : Cl M) {f : Fo} (hf : f.Ok) {xs : List Vl} (hi : okIn f.kinds xs = true) : ∃ a b, L2.atI ((sortI (f.votes xs)).map PyData.int) (-1) = some (.int a) ∧ L2.atI ((sortI (f.votes xs)).map PyData.int) (-2) = some (.int b) ∧ run T (k + 16) "gap" [.p f.enc, .p (inpD xs)] M = .ok (.p (.int (a - b))) M := by
  have hn2 := hf.n2; have hn3 := hf.n3
  obtain ⟨a, b, q1, q2⟩ := sort_two (vs := f.votes xs) (by rw [f.votes_len]; omega)
  refine ⟨a, b, q1, q2, ?_⟩
  rw [run_e L.gap _ _ _ rfl]
  have h1 := r_needI (k := k) L.toLInp hM hf (okIn_sm hi hf.k3)
  rw [okIn_is hi, if_pos rfl] at h1
  have h2 : run T (k + 15) "votes_of" _ M = _ := r_votes_of (k := k + 12) L.toLRun hM hf.ru hi
  have hl : (f.votes xs).length < 64 := by rw [f.votes_len]; omega
  simp only [c_gap, List.map_cons, List.map_nil, List.length_cons, List.length_nil, Nat.reduceAdd, Nat.reduceSub, List.replicate, List.cons_append, List.nil_append, x_cons, s_exp, e_call, el_cons, el_nil, e_var, look_z, look_s, bind_okE, h1, thn_okE, sbind_next, s_asg, e_prim, h2, vals_p, vals_nil, Option.map_some, Option.bind_some, p_sorted, seqD_t, intsD_map, hl, if_true, lift_s, of_someE, List.set, s_ret, e_bin, e_ix, e_neg, e_lit, ngU_i, ixU_p, ixD_l, q1, q2, op2_p, bop_sub, sbind_ret, endD_ret]
  exact leave_same hM
/-! an input that is none -/
theorem r_votesX (L : LVot T) (hM : Cl M) {f : Fo} (hf : f.Ok) {d : D} (hd : smD d = true) (hb : isInputD f.kinds d = false) : run T (k + 16) "votes" [.p f.enc, .p d] M = .exc "InvalidInput" M := by
  rw [run_e L.votes _ _ _ rfl]
  have h1 := r_needI (k := k) L.toLInp hM hf hd
  rw [hb, if_neg (by decide)] at h1
  simp only [c_votes, List.map_cons, List.map_nil, List.length_cons, List.length_nil, Nat.reduceAdd, Nat.reduceSub, List.replicate, List.cons_append, List.nil_append, x_cons, s_exp, e_call, el_cons, el_nil, e_var, look_z, look_s, bind_okE, h1, thn_excE, sbind_exc, endD_exc]
  exact leaveX_same hM
theorem r_answerX (L : LVot T) (hM : Cl M) {f : Fo} (hf : f.Ok) {d : D} (hd : smD d = true) (hb : isInputD f.kinds d = false) : run T (k + 16) "answer" [.p f.enc, .p d] M = .exc "InvalidInput" M := by
  rw [run_e L.answer _ _ _ rfl]
  have h1 := r_needI (k := k) L.toLInp hM hf hd
  rw [hb, if_neg (by decide)] at h1
  simp only [c_answer, List.map_cons, List.map_nil, List.length_cons, List.length_nil, Nat.reduceAdd, Nat.reduceSub, List.replicate, List.cons_append, List.nil_append, x_cons, s_exp, e_call, el_cons, el_nil, e_var, look_z, look_s, bind_okE, h1, thn_excE, sbind_exc, endD_exc]
  exact leaveX_same hM
theorem r_gapX (L : LVot T) (hM : Cl M) : run T (k + 16) "gap" [.p .none, .p .none] M = .exc "InvalidForest" M := by
  rw [run_e L.gap _ _ _ rfl]
  have h1 := r_needI0 (k := k) L.toLInp hM (c := .none) (d := .none) rfl (by decide) rfl
  simp only [c_gap, List.map_cons, List.map_nil, List.length_cons, List.length_nil, Nat.reduceAdd, Nat.reduceSub, List.replicate, List.cons_append, List.nil_append, x_cons, s_exp, e_call, el_cons, el_nil, e_var, look_z, look_s, bind_okE, h1, thn_excE, sbind_exc, endD_exc]
  exact leaveX_same hM
/-! ### the rounds -/
structure LRnd (T : Tb) : Prop where
  cell : T.lookup ("_law_cell" : Str) = some c_law_cell
  rounds : T.lookup ("_law_rounds" : Str) = some c_law_rounds
theorem eqD_nil (ns : List Int) : eqD (.list (ns.map .int)) (.list []) = some (decide (ns = [])) := eqD_ll ns []
theorem r_cell (L : LRnd T) (hM : Cl M) {ns : List Int} (hl : ns.length ≤ 1000) (i : Nat) (hi : i < 1000) : ∃ c : Int, run T (k + 1) "_law_cell" [.scr (ns.map .int), .p (.int i)] M = .ok (.p (.int c)) M := by
  rw [run_e L.cell _ _ _ rfl]
  have e64 : (2 : Nat) ^ 64 = 18446744073709551616 := by decide
  have hop : op2r M (cop .eq) (.scr (ns.map .int)) (.p (.list [])) = some (decide (ns = [])) := by
    show eqD _ _ = _
    exact eqD_nil ns
  have hz0 : (0 : Nat) ≤ sizeLine := Nat.zero_le _
  by_cases hns : ns = []
  · rw [decide_eq_true hns] at hop
    have hm : mulOk i 7919 = true := mul64r (by rw [e64]; decide)
    refine ⟨i * 7919, ?_⟩
    simp only [c_law_cell, List.map_cons, List.map_nil, List.length_cons, List.length_nil, Nat.reduceAdd, Nat.reduceSub, List.replicate, List.cons_append, List.nil_append, x_cons, s_iff, e_cmp, e_var, look_z, look_s, bind_okE, e_lst, el_nil, List.length_nil, hz0, if_true, mkL_nil, of_someE, hop, liftB_s, thn_okE, brU_b, s_ret, e_bin, e_lit, op2_p, bop_mul, hm, lift_s, sbind_ret, endD_ret]
    exact leave_same hM
  · rw [decide_eq_false hns] at hop
    have hpos : 0 < ns.length := by cases ns with | nil => exact absurd rfl hns | cons _ _ => simp
    have hpi : (0 : Int) < (ns.length : Int) := by omega
    have hvl : vals M [.scr (ns.map .int)] = some [.list (ns.map .int)] := by simp [vals, rdv]
    have hlg : (0 : Int) < (ns.length : Int) ∧ ((ns.length : Int)).natAbs.log2 < 9000 := by
      refine ⟨hpi, ?_⟩
      rw [Int.natAbs_natCast]
      have e20 : (2 : Nat) ^ 20 = 1048576 := by decide
      have : ns.length.log2 < 20 := (Nat.log2_lt (by omega)).mpr (by rw [e20]; omega)
      omega
    have hm : mulOk ((i : Int) / (ns.length : Int)) 104729 = true := mul64r (by rw [e64]; decide)
    have hmod : (i : Int) % (ns.length : Int) = ((i % ns.length : Nat) : Int) := by simp
    have hlt : i % ns.length < ns.length := Nat.mod_lt _ hpos
    have hix : ixU M (.scr (ns.map .int)) (.p (.int ((i : Int) % (ns.length : Int)))) = some (.p (.int (ns[i % ns.length]))) := by
      rw [hmod]
      show (ixD (.list (ns.map .int)) (.int _)).map U.p = _
      rw [ixD_l, atI_nat _ _ (by simpa using hlt)]
      simp [hlt]
    refine ⟨ns[i % ns.length] + (i : Int) / (ns.length : Int) * 104729, ?_⟩
    simp only [c_law_cell, List.map_cons, List.map_nil, List.length_cons, List.length_nil, Nat.reduceAdd, Nat.reduceSub, List.replicate, List.cons_append, List.nil_append, x_cons, s_iff, e_cmp, e_var, look_z, look_s, bind_okE, e_lst, el_nil, el_cons, List.length_nil, hz0, if_true, mkL_nil, of_someE, hop, liftB_s, thn_okE, brU_b, Bool.false_eq_true, if_false, x_nil, sbind_next, s_ret, e_bin, e_ix, e_prim, hvl, Option.bind_some, p_len, lenD_l, List.length_map, Option.map_some, lift_s, e_lit, op2_p, bop_mod, hpi, hix, bop_fdiv, hlg, and_self, bop_mul, hm, bop_add, sbind_ret, endD_ret]
    exact leave_same hM
/-- memory with dice behind it -/
def Dices (M M' : Mem) (m : Nat) : Prop := ∃ cs : List Int, cs.length = m ∧ M' = M ++ cs.map fun c => Cell.pl [.int c, .int 0]
theorem cl_dices {M : Mem} (hM : Cl M) (cs : List Int) : Cl (M ++ cs.map fun c => Cell.pl [.int c, .int 0]) := by
  induction cs generalizing M with
  | nil => simpa using hM
  | cons c cs ih =>
    have := ih (M := M ++ [.pl [.int c, .int 0]]) (cl_app hM)
    simpa using this
theorem refs_range (b m : Nat) : refs ((List.range m).map fun i => U.ref (b + i)) = some ((List.range m).map fun i => b + i) := by
  generalize List.range m = l
  induction l with
  | nil => rfl
  | cons x l ih => simp [refs, ih]
theorem gather_rounds {f : U → Mem → R (Option U)} {M : Mem} : ∀ (ds : List D) (cs : List Int) (acc : List U), 
    (∀ d ∈ ds, ∀ cs : List Int, ∃ c : Int, f (.p d) (M ++ cs.map fun c => Cell.pl [.int c, .int 0]) = .ok (some (.ref (M.length + cs.length))) (M ++ (cs ++ [c]).map fun c => Cell.pl [.int c, .int 0])) → acc.length + ds.length ≤ sizeLine → acc = (List.range cs.length).map (fun i => U.ref (M.length + i)) →
    ∃ cs' : List Int, cs'.length = cs.length + ds.length ∧ gather f (ds.map .p) acc (M ++ cs.map fun c => Cell.pl [.int c, .int 0]) = .ok ((List.range cs'.length).map fun i => U.ref (M.length + i)) (M ++ cs'.map fun c => Cell.pl [.int c, .int 0])
  | [], cs, acc, _, _, h => ⟨cs, by simp, by simp [gather, h]⟩
  | d :: ds, cs, acc, hf, hl, h => by
    simp only [List.length_cons] at hl
    obtain ⟨c, hc⟩ := hf d List.mem_cons_self cs
    have hl' : acc.length < sizeLine := by omega
    obtain ⟨cs', h1, h2⟩ := gather_rounds ds (cs ++ [c]) (acc ++ [.ref (M.length + cs.length)]) (fun d hd => hf d (List.mem_cons_of_mem _ hd)) (by simp; omega) (by rw [h]; simp [List.range_succ])
    refine ⟨cs', by rw [h1]; simp; omega, ?_⟩
    simp only [List.map_cons, gather, hc, bind_okE, hl', if_true]
    exact h2
theorem r_rounds (L : LRnd T) (hM : Cl M) {ns : List Int} (hl : ns.length ≤ 1000) {most : Nat} (hm1 : 1 ≤ most) (hm : most ≤ 100) : ∃ (cs : List Int), run T (k + 2) "_law_rounds" [.scr (ns.map .int), .p (.int most)] M = .ok (.rl ((List.range cs.length).map fun i => M.length + i)) (M ++ cs.map fun c => Cell.pl [.int c, .int 0]) ∧ 1 ≤ cs.length ∧ cs.length ≤ most := by
  rw [run_e L.rounds _ _ _ rfl]
  have hvl : vals M [.scr (ns.map .int)] = some [.list (ns.map .int)] := by simp [vals, rdv]
  generalize hmi : (if (ns.length : Int) < (most : Int) then (ns.length : Int) else (most : Int)) = mi
  generalize hma : (if mi > 1 then mi else 1) = ma
  have hma1 : 1 ≤ ma ∧ ma ≤ most := by
    rw [← hma, ← hmi]; split <;> split <;> omega
  obtain ⟨m, rfl⟩ : ∃ m : Nat, ma = m := ⟨ma.toNat, by omega⟩
  have hsrc : evL (run T (k + 1)) (.cons (.prim .max (.cons (.lit (.int 1)) (.cons (.prim .min (.cons (.var 1) (.cons (.prim .len (.cons (.var 0) .nil)) .nil))) .nil))) .nil) [some (.scr (ns.map .int)), some (.p (.int most)), none] M = .ok [.p (.int m)] M := by
    simp only [el_cons, el_nil, e_prim, e_lit, e_var, look_z, look_s, bind_okE, hvl, Option.bind_some, p_len, lenD_l, List.length_map, Option.map_some, lift_s, of_someE, vals_p, vals_nil, p_min2, hmi, p_max2, hma]
  obtain ⟨cs, h1, h2⟩ := gather_rounds (M := M) (f := lcF (run T (k + 1)) (.nm 2) [2] [.p (.int m)] .nil (.lstR (.cons (.call "_law_cell" (.cons (.var 0) (.cons (.var 2) .nil))) (.cons (.lit (.int 0)) .nil))) [some (.scr (ns.map .int)), some (.p (.int most)), none] M) (up 0 m) [] [] (fun d hd cs => by
    rw [up_map] at hd
    obtain ⟨i, hi, rfl⟩ := List.mem_map.mp hd
    have hi := List.mem_range.mp hi
    obtain ⟨c, hc⟩ := r_cell (k := k) (M := M ++ cs.map fun c => Cell.pl [.int c, .int 0]) L (cl_dices hM cs) hl i (by omega)
    refine ⟨c, ?_⟩
    have hz2 : (2 : Nat) ≤ sizeLine := by rw [sz]; omega
    simp only [lcF, put, wipeE, List.set, stands_p, if_true, b_nil, calm_okE, bind_okE, brU_b, e_lstR, el_cons, el_nil, e_call, e_var, look_z, look_s, hc, e_lit, mkR, pures_cons, pures_nil, Option.map_some, List.length_cons, List.length_nil, Nat.reduceAdd, hz2]
    simp) (by rw [sz]; simp [up]; omega) rfl
  have hcl : cs.length = m := by rw [h1]; simp [up]
  refine ⟨cs, ?_, by omega, by omega⟩
  have hlc : evE (run T (k + 1)) (.lc (.nm 2) [2] .range1 (.cons (.prim .max (.cons (.lit (.int 1)) (.cons (.prim .min (.cons (.var 1) (.cons (.prim .len (.cons (.var 0) .nil)) .nil))) .nil))) .nil) .nil (.lstR (.cons (.call "_law_cell" (.cons (.var 0) (.cons (.var 2) .nil))) (.cons (.lit (.int 0)) .nil)))) [some (.scr (ns.map .int)), some (.p (.int most)), none] M = .ok (.rl ((List.range cs.length).map fun i => M.length + i)) (M ++ cs.map fun c => Cell.pl [.int c, .int 0]) := by
    rw [e_lc, hsrc]
    simp only [bind_okE, walk_range M m (by omega)]
    simp only [List.map_nil, List.append_nil] at h2
    rw [h2]
    have hp : pures ((List.range cs.length).map fun i => U.ref (M.length + i)) = none := by
      obtain ⟨j, hj⟩ : ∃ j, cs.length = j + 1 := ⟨cs.length - 1, by omega⟩
      rw [hj, List.range_succ_eq_map]; rfl
    simp only [bind_okE, stands_p, if_true, mkL, hp, refs_range, Option.map_some, of_someE]
  simp only [c_law_rounds, List.map_cons, List.map_nil, List.length_cons, List.length_nil, Nat.reduceAdd, Nat.reduceSub, List.replicate, List.cons_append, List.nil_append, x_cons, s_ret, hlc, thn_okE, sbind_ret, endD_ret]
  rfl
end
end VW
end
section
/-! Loops by invariants; a law's frame. -/
namespace VW
open PySem
theorem forF_inv {ok : Mem → Bool} {g : Tg} {b : Env → Mem → SR} {I : Env → Mem → Prop} (hok : ∀ ρ M, I ρ M → ok M = true) : ∀ (xs : List U) (ρ : Env) (M : Mem), (∀ x ∈ xs, ∀ ρ M, I ρ M → ∃ ρ1 ρ2 M2, put g x ρ = some ρ1 ∧ b ρ1 M = .next ρ2 M2 ∧ I ρ2 M2) → I ρ M → ∃ ρ' M', forF ok g b xs ρ M = .next ρ' M' ∧ I ρ' M'
  | [], ρ, M, _, hI => ⟨ρ, M, by simp [forF, hok ρ M hI], hI⟩
  | x :: xs, ρ, M, h, hI => by
    obtain ⟨ρ1, ρ2, M2, h1, h2, h3⟩ := h x List.mem_cons_self ρ M hI
    obtain ⟨ρ', M', h4, h5⟩ := forF_inv hok xs ρ2 M2 (fun y hy => h y (List.mem_cons_of_mem _ hy)) h3
    exact ⟨ρ', M', by simp only [forF, hok ρ M hI, if_true, h1, h2, sbind_next, h4], h5⟩
theorem forF_ix {ok : Mem → Bool} {g : Tg} {b : Env → Mem → SR} {I : Nat → Env → Mem → Prop} (hok : ∀ i ρ M, I i ρ M → ok M = true) : ∀ (xs : List U) (i : Nat) (ρ : Env) (M : Mem), (∀ (j : Nat) x, xs[j]? = some x → ∀ ρ M, I (i + j) ρ M → ∃ ρ1 ρ2 M2, put g x ρ = some ρ1 ∧ b ρ1 M = .next ρ2 M2 ∧ I (i + j + 1) ρ2 M2) → I i ρ M → ∃ ρ' M', forF ok g b xs ρ M = .next ρ' M' ∧ I (i + xs.length) ρ' M'
  | [], i, ρ, M, _, hI => ⟨ρ, M, by simp [forF, hok i ρ M hI], hI⟩
  | x :: xs, i, ρ, M, h, hI => by
    obtain ⟨ρ1, ρ2, M2, h1, h2, h3⟩ := h 0 x rfl ρ M hI
    obtain ⟨ρ', M', h4, h5⟩ := forF_ix hok xs (i + 1) ρ2 M2 (fun j y hy ρ M hI => by
      have := h (j + 1) y (by simpa using hy) ρ M (by rw [show i + (j + 1) = i + 1 + j by omega]; exact hI)
      rw [show i + (j + 1) + 1 = i + 1 + j + 1 by omega] at this
      exact this) h3
    exact ⟨ρ', M', by simp only [forF, hok i ρ M hI, if_true, h1, h2, sbind_next, h4], by rw [show i + (x :: xs).length = i + 1 + xs.length by simp; omega]; exact h5⟩
theorem cut_take {α : Type} (xs : List α) (p : Nat) : cut xs none (some (p : Int)) = xs.take p := by
  unfold cut
  rw [HT.sIx_none, HT.sIx_nat, List.drop_zero, Nat.sub_zero]
  by_cases h : p ≤ xs.length
  · rw [Nat.min_eq_left h]
  · rw [Nat.min_eq_right (by omega), List.take_of_length_le (Nat.le_refl _), List.take_of_length_le (by omega)]
theorem cut_drop {α : Type} (xs : List α) (p : Nat) : cut xs (some (p : Int)) none = xs.drop p := by
  unfold cut
  rw [HT.sIx_none, HT.sIx_nat]
  by_cases h : p ≤ xs.length
  · rw [Nat.min_eq_left h, List.take_of_length_le (by simp)]
  · rw [Nat.min_eq_right (by omega), List.drop_eq_nil_of_le (Nat.le_refl _), List.drop_eq_nil_of_le (by omega)]; simp
theorem cut_drop1 {α : Type} (xs : List α) : cut xs (some 1) none = xs.drop 1 := cut_drop xs 1
/-- one thing wrong -/
theorem vals_bad : ∀ {ks : List Str} {xs : List D} {p : Nat} {kd : Str} {t : D}, ks[p]? = some kd → valD kd t = false → valsD ks (xs.take p ++ [t] ++ xs.drop (p + 1)) = false
  | [], xs, p, kd, t, h, _ => by simp at h
  | k :: ks, [], 0, kd, t, h, ht => by
    simp at h; subst h
    simp [valsD, ht]
  | k :: ks, x :: xs, 0, kd, t, h, ht => by
    simp at h; subst h
    simp [valsD, ht]
  | k :: ks, [], p + 1, kd, t, h, ht => by
    cases ks with
    | nil => simp at h
    | cons k2 ks => simp [valsD]
  | k :: ks, x :: xs, p + 1, kd, t, h, ht => by
    have ih := vals_bad (ks := ks) (xs := xs) (p := p) (by simpa using h) ht
    simp only [List.take_succ_cons, List.drop_succ_cons, List.cons_append, valsD]
    rw [show xs.take p ++ [t] ++ xs.drop (p + 1) = xs.take p ++ [t] ++ xs.drop (p + 1) by rfl] at ih
    rw [ih, Bool.and_false]
theorem told_exc {names : List Str} {P : Addr} {q : Str} {φ : List U → Mem → R U} {us : List U} {M : Mem} {c : Str} (h0 : M[0]? = some (.tab P q)) (h : φ us M = .exc c M) (hc : c ∈ names) : toldF names P q φ us M = .ok (.p (.tuple [.str "error", .str c])) M := by
  unfold toldF
  rw [h0]
  simp [h, hc]
theorem told_ok' {names : List Str} {P : Addr} {q : Str} {φ : List U → Mem → R U} {us : List U} {M M' : Mem} {u : U} (h0 : M[0]? = some (.tab P q)) (h : φ us M = .ok u M') : toldF names P q φ us M = .ok u M' := by
  unfold toldF
  rw [h0]
  simp [h]
/-- the law's memory: a table, dice, and more -/
structure Sto (P : Addr) (q : Str) (m : Nat) (M : Mem) : Prop where
  cl : Cl M
  tb : M[0]? = some (.tab P q)
  dc : ∀ i, 1 ≤ i → i ≤ m → DC M i
theorem Sto.up {P : Addr} {q : Str} {m n : Nat} {M M' : Mem} (h : Sto P q m M) (u : Up n M M') (h1 : 1 ≤ n) : Sto P q m M' :=
  ⟨u.cl, by rw [u.oth 0 (by omega)]; exact h.tb, fun i h2 h3 => by
    by_cases e : i = n
    · rw [e]; exact u.dc
    · obtain ⟨a, b, hab⟩ := h.dc i h2 h3
      exact ⟨a, b, by rw [u.oth i e]; exact hab⟩⟩
theorem Sto.app {P : Addr} {q : Str} {m : Nat} {M : Mem} {ds : List D} (h : Sto P q m M) : Sto P q m (M ++ [.pl ds]) :=
  ⟨cl_app h.cl, by rw [List.getElem?_append_left (List.getElem?_eq_some_iff.mp h.tb).1]; exact h.tb, fun i h1 h2 => dc_app (h.dc i h1 h2)⟩
theorem sto_start {P : Addr} {q : Str} (cs : List Int) : Sto P q cs.length ([.tab P q] ++ cs.map fun c => Cell.pl [.int c, .int 0]) := by
  refine ⟨cl_dices (M := [.tab P q]) (by unfold Cl; rfl) cs, rfl, fun i h1 h2 => ?_⟩
  obtain ⟨j, rfl⟩ : ∃ j, i = j + 1 := ⟨i - 1, by omega⟩
  have hj : j < cs.length := by omega
  exact ⟨cs[j], 0, by simp [hj]⟩
end VW
end
section
/-! Written by gen.py: defs in the small language. -/
namespace VW
open PySem
def c_need_two : CDef := ⟨["forest", "other"], ["forest", "other"], false, (.cons (.exp (.call "need_forest" (.cons (.var 0) .nil))) (.cons (.exp (.call "need_forest" (.cons (.var 1) .nil))) .nil))⟩
def c_count_leaves : CDef := ⟨["forest"], ["forest", "tree"], false, (.cons (.exp (.call "need_forest" (.cons (.var 0) .nil))) (.cons (.ret (.prim .sum (.cons (.lc (.nm 1) [1] .seq (.cons (.ix (.var 0) (.lit (.int 2))) .nil) .nil (.call "count_of" (.cons (.var 1) .nil))) .nil))) .nil))⟩
def c_votes_form : CDef := ⟨["forest"], ["forest"], false, (.cons (.exp (.call "need_forest" (.cons (.var 0) .nil))) (.cons (.ret .off) .nil))⟩
def c_need_alike : CDef := ⟨["forest", "other"], ["forest", "other"], false, (.cons (.exp (.call "need_two" (.cons (.var 0) (.cons (.var 1) .nil)))) (.cons (.iff (.boo false (.cons (.cmp .ne (.ix (.var 0) (.lit (.int 0))) (.ix (.var 1) (.lit (.int 0)))) (.cons (.cmp .ne (.ix (.var 0) (.lit (.int 1))) (.ix (.var 1) (.lit (.int 1)))) .nil))) (.cons (.rai "NoFit") .nil) .nil) .nil))⟩
def c_joined : CDef := ⟨["forest", "other"], ["forest", "other"], false, (.cons (.exp (.call "need_alike" (.cons (.var 0) (.cons (.var 1) .nil)))) (.cons (.iff (.cmp .gt (.bin .add (.prim .len (.cons (.ix (.var 0) (.lit (.int 2))) .nil)) (.prim .len (.cons (.ix (.var 1) (.lit (.int 2))) .nil))) (.lit (.int 4))) (.cons (.rai "TooMany") .nil) .nil) (.cons (.ret (.tup (.cons (.ix (.var 0) (.lit (.int 0))) (.cons (.ix (.var 0) (.lit (.int 1))) (.cons (.bin .add (.ix (.var 0) (.lit (.int 2))) (.ix (.var 1) (.lit (.int 2)))) .nil))))) .nil)))⟩
def c_law_tests : CDef := ⟨["tree"], ["tree"], false, (.cons (.iff (.cmp .eq (.ix (.var 0) (.lit (.int 0))) (.lit (.str "leaf"))) (.cons (.ret (.lst .nil)) .nil) .nil) (.cons (.ret (.bin .add (.bin .add (.lst (.cons (.tup (.cons (.ix (.var 0) (.lit (.int 1))) (.cons (.ix (.var 0) (.lit (.int 2))) .nil))) .nil)) (.call "_law_tests" (.cons (.ix (.var 0) (.lit (.int 3))) .nil))) (.call "_law_tests" (.cons (.ix (.var 0) (.lit (.int 4))) .nil)))) .nil))⟩
def t_law_bad_forests_1 : CSs := (.cons (.ret (.var 2)) .nil)
def b_law_bad_forests_2 : CSs := (.cons (.app (.var 2) (.tup (.cons (.tup (.cons (.lit (.str "ab")) .nil)) (.cons (.var 6) (.cons (.tup (.cons (.bin .add (.var 4) (.tup (.cons (.var 1) (.cons (.var 1) .nil)))) .nil)) .nil))))) .nil)
def b_law_bad_forests_3 : CSs := (.cons (.app (.var 2) (.tup (.cons (.tup (.cons (.lit (.str "0")) .nil)) (.cons (.var 6) (.cons (.tup (.cons (.bin .add (.var 4) (.tup (.cons (.var 1) (.cons (.var 1) .nil)))) .nil)) .nil))))) .nil)
def t_law_bad_forests_4 : CSs := (.cons (.asg (.nm 3) (.bin .add (.var 3) (.lst (.cons (.tup (.cons (.lit (.str "below")) (.cons (.lit (.int 1)) (.cons (.tup (.cons (.lit (.int 0)) (.cons (.lit (.int 1)) .nil))) .nil)))) (.cons (.tup (.cons (.lit (.str "among")) (.cons (.lit (.int 0)) (.cons (.lit (.str "a")) .nil)))) (.cons (.tup (.cons (.lit (.str "at")) (.cons (.lit (.int 0)) (.cons (.tup (.cons (.lit (.int 0)) (.cons (.lit (.int 1)) .nil))) .nil)))) .nil)))))) (.cons (.for_ (.nm 4) .seq (.cons (.var 3) .nil) b_law_bad_forests_3) (.cons (.asg (.nm 3) (.lst (.cons (.tup (.cons (.lit (.str "among")) (.cons (.lit (.int 0)) (.cons (.lit (.str "")) .nil)))) (.cons (.tup (.cons (.lit (.str "among")) (.cons (.lit (.int 0)) (.cons (.lit (.str "ba")) .nil)))) (.cons (.tup (.cons (.lit (.str "among")) (.cons (.lit (.int 0)) (.cons (.lit (.str "c")) .nil)))) (.cons (.tup (.cons (.lit (.str "among")) (.cons (.lit (.bool true)) (.cons (.lit (.str "a")) .nil)))) .nil)))))) (.cons (.asg (.nm 3) (.bin .add (.var 3) (.lst (.cons (.tup (.cons (.lit (.str "below")) (.cons (.lit (.int 0)) (.cons (.tup (.cons (.lit (.int 0)) (.cons (.lit (.int 1)) .nil))) .nil)))) (.cons (.tup (.cons (.lit (.str "among")) (.cons (.lit (.int 0)) (.cons (.lit (.str "a")) (.cons (.lit (.int 0)) .nil))))) .nil))))) (.cons (.for_ (.nm 4) .seq (.cons (.var 3) .nil) b_law_bad_forests_2) t_law_bad_forests_1)))))
def t_law_bad_forests_5 : CSs := (.cons (.asg (.nm 2) (.bin .add (.var 2) (.lst (.cons (.tup (.cons (.var 5) (.cons (.var 6) (.cons (.lst (.cons (.var 1) .nil)) .nil)))) (.cons (.tup (.cons (.var 5) (.cons (.var 6) (.cons (.tup (.cons (.tup (.cons (.lit (.str "leaf")) (.cons (.bin .mul (.tup (.cons (.lit (.int 0)) .nil)) (.bin .add (.var 6) (.lit (.int 1)))) .nil))) .nil)) .nil)))) .nil))))) (.cons (.asg (.nm 2) (.bin .add (.var 2) (.lst (.cons (.tup (.cons (.var 5) (.cons (.var 6) (.cons (.tup (.cons (.ix (.var 1) (.lit (.int 1))) .nil)) .nil)))) .nil)))) (.cons (.asg (.nm 2) (.bin .add (.var 2) (.lst (.cons (.tup (.cons (.var 5) (.cons (.var 6) (.cons (.tup (.cons (.tup (.cons (.lit (.str "leaf")) (.cons (.bin .mul (.tup (.cons (.lit (.int 10)) .nil)) (.var 6)) .nil))) .nil)) .nil)))) .nil)))) (.cons (.new 2 (.bin .add (.var 2) (.lst (.cons (.tup (.cons (.var 5) (.cons (.var 6) (.cons (.tup (.cons (.tup (.cons (.lit (.str "leaf")) (.cons (.bin .mul (.tup (.cons (.lit (.bool true)) .nil)) (.var 6)) .nil))) .nil)) .nil)))) (.cons (.tup (.cons (.var 5) (.cons (.var 6) (.cons (.tup (.cons (.lit .none) .nil)) .nil)))) .nil))))) (.cons (.asg (.nm 3) (.lst (.cons (.tup (.cons (.lit (.str "below")) (.cons (.lit (.int 0)) (.cons (.tup (.cons (.lit (.int 2)) (.cons (.lit (.int 4)) .nil))) .nil)))) (.cons (.tup (.cons (.lit (.str "below")) (.cons (.lit (.int 0)) (.cons (.tup (.cons (.lit (.int 1)) (.cons (.lit (.int 5)) .nil))) .nil)))) (.cons (.tup (.cons (.lit (.str "below")) (.cons (.lit (.int 0)) (.cons (.tup (.cons (.lit (.int 100)) (.cons (.lit (.int 1)) .nil))) .nil)))) .nil))))) t_law_bad_forests_4)))))
def t_law_bad_forests_6 : CSs := (.cons (.asg (.nm 2) (.bin .add (.var 2) (.lst (.cons (.tup (.cons (.tup (.cons (.lit (.str "ba")) .nil)) (.cons (.var 6) (.cons (.tup (.cons (.var 1) .nil)) .nil)))) .nil)))) (.cons (.asg (.nm 2) (.bin .add (.var 2) (.lst (.cons (.tup (.cons (.tup (.cons (.lit (.str "abcde")) .nil)) (.cons (.var 6) (.cons (.tup (.cons (.var 1) .nil)) .nil)))) (.cons (.tup (.cons (.tup (.cons (.lit (.str "aa")) .nil)) (.cons (.var 6) (.cons (.tup (.cons (.var 1) .nil)) .nil)))) (.cons (.tup (.cons (.tup (.cons (.lit (.str "aB")) .nil)) (.cons (.var 6) (.cons (.tup (.cons (.var 1) .nil)) .nil)))) .nil)))))) (.cons (.asg (.nm 2) (.bin .add (.var 2) (.lst (.cons (.tup (.cons (.tup (.cons (.lit (.int 0)) .nil)) (.cons (.var 6) (.cons (.tup (.cons (.var 1) .nil)) .nil)))) .nil)))) (.cons (.asg (.nm 2) (.bin .add (.var 2) (.lst (.cons (.tup (.cons (.var 5) (.cons (.lit (.int 1)) (.cons (.var 7) .nil)))) (.cons (.tup (.cons (.var 5) (.cons (.lit (.int 4)) (.cons (.var 7) .nil)))) (.cons (.tup (.cons (.var 5) (.cons (.lit (.bool true)) (.cons (.var 7) .nil)))) (.cons (.tup (.cons (.var 5) (.cons (.var 6) (.cons (.tup .nil) .nil)))) .nil))))))) (.cons (.asg (.nm 2) (.bin .add (.var 2) (.lst (.cons (.tup (.cons (.var 5) (.cons (.var 6) (.cons (.bin .mul (.tup (.cons (.var 1) .nil)) (.lit (.int 5))) .nil)))) .nil)))) t_law_bad_forests_5)))))
def c_law_bad_forests : CDef := ⟨["forest"], ["forest", "leaf", "bad", "cases", "test", "kinds", "answers", "trees"], false, (.cons (.asg (.tp [5, 6, 7]) (.var 0)) (.cons (.asg (.nm 1) (.tup (.cons (.lit (.str "leaf")) (.cons (.bin .mul (.tup (.cons (.lit (.int 0)) .nil)) (.var 6)) .nil)))) (.cons (.asg (.nm 2) (.lst (.cons (.lit .none) (.cons (.lit (.int 5)) (.cons (.prim .list (.cons (.var 0) .nil)) (.cons (.sl (.var 0) .nil (.cons (.lit (.int 2)) .nil)) (.cons (.bin .add (.var 0) (.tup (.cons (.lit (.int 0)) .nil))) (.cons (.tup (.cons (.tup .nil) (.cons (.var 6) (.cons (.var 7) .nil)))) .nil)))))))) (.cons (.asg (.nm 2) (.bin .add (.var 2) (.lst (.cons (.tup (.cons (.prim .list (.cons (.var 5) .nil)) (.cons (.var 6) (.cons (.var 7) .nil)))) .nil)))) (.cons (.asg (.nm 2) (.bin .add (.var 2) (.lst (.cons (.tup (.cons (.bin .mul (.tup (.cons (.lit (.str "0")) .nil)) (.lit (.int 4))) (.cons (.var 6) (.cons (.tup (.cons (.var 1) .nil)) .nil)))) (.cons (.tup (.cons (.tup (.cons (.lit (.str "1")) .nil)) (.cons (.var 6) (.cons (.tup (.cons (.var 1) .nil)) .nil)))) (.cons (.tup (.cons (.tup (.cons (.lit (.str "a")) .nil)) (.cons (.var 6) (.cons (.tup (.cons (.var 1) .nil)) .nil)))) .nil)))))) t_law_bad_forests_6)))))⟩
def c_law_row_tree : CDef := ⟨["many", "leaf"], ["many", "leaf", "found", "turn"], false, (.cons (.asg (.nm 2) (.var 1)) (.cons (.for_ (.nm 3) .range1 (.cons (.bin .sub (.var 0) (.lit (.int 1))) .nil) (.cons (.asg (.nm 2) (.tup (.cons (.lit (.str "below")) (.cons (.lit (.int 0)) (.cons (.tup (.cons (.var 3) (.cons (.lit (.int 1)) .nil))) (.cons (.var 1) (.cons (.var 2) .nil))))))) .nil)) (.cons (.ret (.var 2)) .nil)))⟩
def b_lawK05_1 : CSs := (.cons (.iff (.boo false (.cons (.call "is_forest" (.cons (.var 3) .nil)) (.cons (.cmp .ne (.told "told count_leaves" "count_leaves" (.cons (.var 3) .nil)) (.tup (.cons (.lit (.str "error")) (.cons (.lit (.str "InvalidForest")) .nil)))) .nil))) (.cons (.ret (.lit (.bool false))) .nil) .nil) (.cons (.iff (.cmp .ne (.told "told votes_form" "votes_form" (.cons (.var 3) .nil)) (.tup (.cons (.lit (.str "error")) (.cons (.lit (.str "InvalidForest")) .nil)))) (.cons (.ret (.lit (.bool false))) .nil) .nil) (.cons (.iff (.cmp .ne (.told "told joined" "joined" (.cons (.var 2) (.cons (.var 3) .nil))) (.tup (.cons (.lit (.str "error")) (.cons (.lit (.str "InvalidForest")) .nil)))) (.cons (.ret (.lit (.bool false))) .nil) .nil) .nil)))
def b_lawK05_2 : CSs := (.cons (.asg (.nm 2) (.call "_law_forest" (.cons (.var 1) (.cons (.lit (.int 4)) (.cons (.lit (.int 8)) .nil))))) (.cons (.iff (.nt (.call "is_forest" (.cons (.var 2) .nil))) (.cons (.ret (.lit (.bool false))) .nil) .nil) (.cons (.iff (.cmp .ne (.call "count_leaves" (.cons (.var 2) .nil)) (.prim .sum (.cons (.lc (.nm 6) [6] .seq (.cons (.ix (.var 2) (.lit (.int 2))) .nil) .nil (.bin .add (.prim .len (.cons (.call "_law_tests" (.cons (.var 6) .nil)) .nil)) (.lit (.int 1)))) .nil))) (.cons (.ret (.lit (.bool false))) .nil) .nil) (.cons (.for_ (.nm 3) .seq (.cons (.call "_law_bad_forests" (.cons (.var 2) .nil)) .nil) b_lawK05_1) (.cons (.asg (.nm 4) (.tup (.cons (.lit (.str "leaf")) (.cons (.tup (.cons (.lit (.int 9)) (.cons (.neg (.lit (.int 9))) (.cons (.lit (.int 0)) .nil)))) .nil)))) (.cons (.iff (.nt (.call "is_forest" (.cons (.tup (.cons (.tup (.cons (.lit (.str "0")) .nil)) (.cons (.lit (.int 3)) (.cons (.bin .mul (.tup (.cons (.call "_law_row_tree" (.cons (.lit (.int 8)) (.cons (.var 4) .nil))) .nil)) (.lit (.int 4))) .nil)))) .nil))) (.cons (.ret (.lit (.bool false))) .nil) .nil) (.cons (.iff (.call "is_forest" (.cons (.tup (.cons (.tup (.cons (.lit (.str "0")) .nil)) (.cons (.lit (.int 3)) (.cons (.tup (.cons (.call "_law_row_tree" (.cons (.lit (.int 9)) (.cons (.var 4) .nil))) .nil)) .nil)))) .nil)) (.cons (.ret (.lit (.bool false))) .nil) .nil) (.cons (.asg (.nm 5) (.tup (.cons (.lit (.str "below")) (.cons (.lit (.int 0)) (.cons (.tup (.cons (.neg (.lit (.int 99))) (.cons (.lit (.int 4)) .nil))) (.cons (.tup (.cons (.lit (.str "among")) (.cons (.lit (.int 1)) (.cons (.lit (.str "abcd")) (.cons (.var 4) (.cons (.var 4) .nil)))))) (.cons (.var 4) .nil))))))) (.cons (.iff (.nt (.call "is_forest" (.cons (.tup (.cons (.tup (.cons (.lit (.str "0")) (.cons (.lit (.str "abcd")) (.cons (.lit (.str "yz")) .nil)))) (.cons (.lit (.int 3)) (.cons (.tup (.cons (.var 5) .nil)) .nil)))) .nil))) (.cons (.ret (.lit (.bool false))) .nil) .nil) (.cons (.iff (.call "is_forest" (.cons (.tup (.cons (.tup (.cons (.lit (.str "0")) (.cons (.lit (.str "abce")) (.cons (.lit (.str "yz")) .nil)))) (.cons (.lit (.int 3)) (.cons (.tup (.cons (.var 5) .nil)) .nil)))) .nil)) (.cons (.ret (.lit (.bool false))) .nil) .nil) .nil))))))))))
def c_lawK05 : CDef := ⟨["script"], ["script", "dice", "forest", "bad", "leaf", "wide", "tree"], false, (.cons (.for_ (.nm 1) .seq (.cons (.call "_law_rounds" (.cons (.var 0) (.cons (.lit (.int 4)) .nil))) .nil) b_lawK05_2) (.cons (.ret (.lit (.bool true))) .nil))⟩
end VW
end
section
/-! Leaves counted; two forests; tests of a tree. -/
namespace VW
open PySem
theorem mul1 (x : D) (k : Nat) (h2 : 2 ≤ k) (h : k ≤ 1000) : bop .mul (.tuple [x]) (.int k) = some (.tuple (List.replicate k x)) := by
  have hc : ([x] ≠ [] ∧ (2 : Int) ≤ k ∧ (k : Int) ≤ 1000 ∧ [x].length ≤ 1000) := ⟨by simp, by omega, by omega, by simp⟩
  show (if [x] ≠ [] ∧ (2 : Int) ≤ k ∧ (k : Int) ≤ 1000 ∧ [x].length ≤ 1000 then some (PyData.tuple (rept k [x])) else none) = _
  rw [if_pos hc]
  congr 2
  unfold rept
  simp only [Int.toNat_natCast]
  clear h2 h hc
  induction k with
  | zero => rfl
  | succ m ih => simp [List.replicate_succ, ih]
structure LCnt (T : Tb) : Prop extends LFor T where
  count_leaves : T.lookup ("count_leaves" : Str) = some c_count_leaves
structure LTwo (T : Tb) : Prop extends LFor T where
  need_two : T.lookup ("need_two" : Str) = some c_need_two
  need_alike : T.lookup ("need_alike" : Str) = some c_need_alike
def Fo.leaves (f : Fo) : Nat := (f.ts.map Tr.leaves).sum
def Tr.tests : Tr → List (Nat × (Int × Int ⊕ Str))
  | .leaf _ => []
  | .bel p a b l r => (p, .inl (a, b)) :: (l.tests ++ r.tests)
  | .amo p m l r => (p, .inr m) :: (l.tests ++ r.tests)
def tstD : Nat × (Int × Int ⊕ Str) → D
  | (p, .inl (a, b)) => .tuple [.int p, fr a b]
  | (p, .inr m) => .tuple [.int p, .str m]
theorem Tr.tests_len : ∀ t : Tr, t.tests.length + 1 = t.leaves
  | .leaf _ => rfl
  | .bel _ _ _ l r => by simp only [Tr.tests, List.length_cons, List.length_append, Tr.leaves]; have := l.tests_len; have := r.tests_len; omega
  | .amo _ _ l r => by simp only [Tr.tests, List.length_cons, List.length_append, Tr.leaves]; have := l.tests_len; have := r.tests_len; omega
section
variable {T : Tb} {k : Nat} {M : Mem}
theorem r_countT (L : LFor T) (hM : Cl M) {kinds : List Str} {n : Nat} {t : Tr} (h : t.ok kinds n = true) {m : Nat} (hm : t.depth < m) : run T (k + m) "count_of" [.p t.enc] M = .ok (.p (.int (t.leaves : Nat))) M := by
  rw [r_count (kinds := kinds) (n := n) L hM m t.enc (by rw [t.isTree m h]; simpa using hm), t.countE (kinds := kinds) (n := n) m hm]
theorem sum_cast (l : List Nat) : (l.map fun x => ((x : Nat) : Int)).sum = ((l.sum : Nat) : Int) := by
  induction l with
  | nil => rfl
  | cons x l ih => simp only [List.map_cons, List.sum_cons, ih]; omega
theorem r_leaves (L : LCnt T) (hM : Cl M) {f : Fo} (hf : f.Ok) : run T (k + 15) "count_leaves" [.p f.enc] M = .ok (.p (.int (f.leaves : Nat))) M := by
  rw [run_e L.count_leaves _ _ _ rfl]
  have h1 := r_need (k := k) L.toLFor hM hf.sm (by have := hf.dep; omega)
  rw [hf.is, if_pos rfl] at h1
  have ht4 := hf.t4
  have lc : evE (run T (k + 14)) (.lc (.nm 1) [1] .seq (.cons (.ix (.var 0) (.lit (.int 2))) .nil) .nil (.call "count_of" (.cons (.var 1) .nil))) [some (.p f.enc), none] M = .ok (.p (.list ((f.ts.map fun t => (t.leaves : Int)).map .int))) M := by
    rw [List.map_map]
    refine lc_mapA (e := Tr.enc) (us := [.p (.tuple (f.ts.map Tr.enc))]) (by simp [Fo.enc]) (by simp) (by simp) (by rw [sz]; omega) fun t ht => ⟨_, rfl, ?_⟩
    have := r_countT (k := k + 6) L.toLFor hM (hf.tt t ht) (hf.t8 t ht).1
    simp [wipeE, this]
  have hs : (f.ts.map fun t => (t.leaves : Int)).sum = (f.leaves : Int) := by
    unfold Fo.leaves
    rw [← sum_cast, List.map_map]; rfl
  simp only [c_count_leaves, List.map_cons, List.map_nil, List.length_cons, List.length_nil, Nat.reduceAdd, Nat.reduceSub, List.replicate, List.cons_append, List.nil_append, x_cons, s_exp, e_call, el_cons, el_nil, e_var, look_z, look_s, bind_okE, h1, thn_okE, sbind_next, s_ret, e_prim, lc, vals_p, vals_nil, Option.map_some, Option.bind_some, p_sum, intsD_map, hs, lift_s, of_someE, sbind_ret, endD_ret]
  exact leave_same hM
theorem r_leavesX (L : LCnt T) (hM : Cl M) {d : D} (hd : smD d = true) (hp : d.depth ≤ 64) (hb : isForestD d = false) : run T (k + 15) "count_leaves" [.p d] M = .exc "InvalidForest" M := by
  rw [run_e L.count_leaves _ _ _ rfl]
  have h1 := r_need (k := k) L.toLFor hM hd hp
  rw [hb, if_neg (by decide)] at h1
  simp only [c_count_leaves, List.map_cons, List.map_nil, List.length_cons, List.length_nil, Nat.reduceAdd, Nat.reduceSub, List.replicate, List.cons_append, List.nil_append, x_cons, s_exp, e_call, el_cons, el_nil, e_var, look_z, look_s, bind_okE, h1, thn_excE, sbind_exc, endD_exc]
  exact leaveX_same hM
theorem r_twoX (L : LTwo T) (hM : Cl M) {f : Fo} (hf : f.Ok) {d : D} (hd : smD d = true) (hp : d.depth ≤ 64) (hb : isForestD d = false) : run T (k + 15) "need_two" [.p f.enc, .p d] M = .exc "InvalidForest" M := by
  rw [run_e L.need_two _ _ _ rfl]
  have h0 := r_need (k := k) L.toLFor hM hf.sm (by have := hf.dep; omega)
  rw [hf.is, if_pos rfl] at h0
  have h1 := r_need (k := k) L.toLFor hM hd hp
  rw [hb, if_neg (by decide)] at h1
  simp only [c_need_two, List.map_cons, List.map_nil, List.length_cons, List.length_nil, Nat.reduceAdd, Nat.reduceSub, List.replicate, List.cons_append, List.nil_append, x_cons, s_exp, e_call, el_cons, el_nil, e_var, look_z, look_s, bind_okE, h0, thn_okE, sbind_next, h1, thn_excE, sbind_exc, endD_exc]
  exact leaveX_same hM
theorem r_alikeX (L : LTwo T) (hM : Cl M) {f : Fo} (hf : f.Ok) {d : D} (hd : smD d = true) (hp : d.depth ≤ 64) (hb : isForestD d = false) : run T (k + 16) "need_alike" [.p f.enc, .p d] M = .exc "InvalidForest" M := by
  rw [run_e L.need_alike _ _ _ rfl]
  have h1 := r_twoX (k := k) L hM hf hd hp hb
  simp only [c_need_alike, List.map_cons, List.map_nil, List.length_cons, List.length_nil, Nat.reduceAdd, Nat.reduceSub, List.replicate, List.cons_append, List.nil_append, x_cons, s_exp, e_call, el_cons, el_nil, e_var, look_z, look_s, bind_okE, h1, thn_excE, sbind_exc, endD_exc]
  exact leaveX_same hM
theorem r_joinedX (L : LTwo T) (hj : T.lookup ("joined" : Str) = some c_joined) (hM : Cl M) {f : Fo} (hf : f.Ok) {d : D} (hd : smD d = true) (hp : d.depth ≤ 64) (hb : isForestD d = false) : run T (k + 17) "joined" [.p f.enc, .p d] M = .exc "InvalidForest" M := by
  rw [run_e hj _ _ _ rfl]
  have h1 := r_alikeX (k := k) L hM hf hd hp hb
  simp only [c_joined, List.map_cons, List.map_nil, List.length_cons, List.length_nil, Nat.reduceAdd, Nat.reduceSub, List.replicate, List.cons_append, List.nil_append, x_cons, s_exp, e_call, el_cons, el_nil, e_var, look_z, look_s, bind_okE, h1, thn_excE, sbind_exc, endD_exc]
  exact leaveX_same hM
theorem r_tests (h : T.lookup ("_law_tests" : Str) = some c_law_tests) (hM : Cl M) : ∀ (t : Tr) (k : Nat), t.depth < 1000 → t.leaves ≤ 1000 → run T (k + t.depth + 1) "_law_tests" [.p t.enc] M = .ok (.p (.list (t.tests.map tstD))) M := by
  intro t
  induction t with
  | leaf vs =>
    intro k _ _
    rw [run_e h _ _ _ rfl]
    have hz0 : (0 : Nat) ≤ sizeLine := Nat.zero_le _
    simp only [c_law_tests, Tr.enc, List.map_cons, List.map_nil, List.length_cons, List.length_nil, Nat.reduceAdd, Nat.reduceSub, List.replicate, List.cons_append, List.nil_append, x_cons, s_iff, e_cmp, e_ix, e_var, look_z, bind_okE, e_lit, ixU_p, ixD_t, atI_0, Option.map_some, of_someE, op2r_p, cop_eq, eq_lf, liftB_s, thn_okE, brU_b, if_true, s_ret, e_lst, el_nil, hz0, mkL_nil, sbind_ret, endD_ret, Tr.tests]
    exact leave_same hM
  | bel p a b l r ihl ihr =>
    intro k hd hl
    simp only [Tr.depth, Tr.leaves] at hd hl
    have h1 := ihl (k + max l.depth r.depth - l.depth) (by omega) (by omega)
    have h2 := ihr (k + max l.depth r.depth - r.depth) (by omega) (by omega)
    rw [show k + max l.depth r.depth - l.depth + l.depth + 1 = k + (max l.depth r.depth + 1) by omega] at h1
    rw [show k + max l.depth r.depth - r.depth + r.depth + 1 = k + (max l.depth r.depth + 1) by omega] at h2
    rw [show (Tr.bel p a b l r).depth = max l.depth r.depth + 1 from rfl, run_e h _ _ _ rfl]
    have hz1 : (1 : Nat) ≤ sizeLine := by rw [sz]; omega
    have hz2 : (2 : Nat) ≤ sizeLine := by rw [sz]; omega
    have tl := l.tests_len; have tr := r.tests_len
    have hs1 : 1 + (l.tests.map tstD).length ≤ sizeLine := by rw [sz]; simp; omega
    have hs2 : ([PyData.tuple [.int p, fr a b]] ++ l.tests.map tstD).length + (r.tests.map tstD).length ≤ sizeLine := by rw [sz]; simp; omega
    simp only [c_law_tests, Tr.enc, List.map_cons, List.map_nil, List.length_cons, List.length_nil, Nat.reduceAdd, Nat.reduceSub, List.replicate, List.nil_append, x_cons, s_iff, e_cmp, e_ix, e_var, look_z, bind_okE, e_lit, ixU_p, ixD_t, atI_0, atI_1, atI_2, atI_3, atI_4, Option.map_some, of_someE, op2r_p, cop_eq, eq_lf, liftB_s, thn_okE, brU_b, Bool.false_eq_true, if_false, x_nil, sbind_next, s_ret, e_bin, e_lst, el_cons, el_nil, e_tup, mkT, pures_cons, pures_nil, hz2, hz1, if_true, mkL, e_call, h1, h2, op2_p, bop_addL, hs1, lift_s, hs2, sbind_ret, endD_ret, List.append_nil]
    rw [leave_same hM]
    simp [Tr.tests, tstD]
  | amo p m l r ihl ihr =>
    intro k hd hl
    simp only [Tr.depth, Tr.leaves] at hd hl
    have h1 := ihl (k + max l.depth r.depth - l.depth) (by omega) (by omega)
    have h2 := ihr (k + max l.depth r.depth - r.depth) (by omega) (by omega)
    rw [show k + max l.depth r.depth - l.depth + l.depth + 1 = k + (max l.depth r.depth + 1) by omega] at h1
    rw [show k + max l.depth r.depth - r.depth + r.depth + 1 = k + (max l.depth r.depth + 1) by omega] at h2
    rw [show (Tr.amo p m l r).depth = max l.depth r.depth + 1 from rfl, run_e h _ _ _ rfl]
    have hz1 : (1 : Nat) ≤ sizeLine := by rw [sz]; omega
    have hz2 : (2 : Nat) ≤ sizeLine := by rw [sz]; omega
    have tl := l.tests_len; have tr := r.tests_len
    have hs1 : 1 + (l.tests.map tstD).length ≤ sizeLine := by rw [sz]; simp; omega
    have hs2 : ([PyData.tuple [.int p, .str m]] ++ l.tests.map tstD).length + (r.tests.map tstD).length ≤ sizeLine := by rw [sz]; simp; omega
    simp only [c_law_tests, Tr.enc, List.map_cons, List.map_nil, List.length_cons, List.length_nil, Nat.reduceAdd, Nat.reduceSub, List.replicate, List.nil_append, x_cons, s_iff, e_cmp, e_ix, e_var, look_z, bind_okE, e_lit, ixU_p, ixD_t, atI_0, atI_1, atI_2, atI_3, atI_4, Option.map_some, of_someE, op2r_p, cop_eq, eq_lf, liftB_s, thn_okE, brU_b, Bool.false_eq_true, if_false, x_nil, sbind_next, s_ret, e_bin, e_lst, el_cons, el_nil, e_tup, mkT, pures_cons, pures_nil, hz2, hz1, if_true, mkL, e_call, h1, h2, op2_p, bop_addL, hs1, lift_s, hs2, sbind_ret, endD_ret, List.append_nil]
    rw [leave_same hM]
    simp [Tr.tests, tstD]
end
end VW
end
section
/-! Law k05, in plain words. -/
namespace VW
namespace K05
open PySem
def nm : List Str := ["InvalidForest", "NoFit", "TooMany"]
structure Lib (T : Tb) (Φ : Fn) (P : Addr) (q : Str) : Prop where
  C : LCnt T
  W : LTwo T
  D : LDraw T
  R : LRnd T
  J : T.lookup ("joined" : Str) = some c_joined
  S : T.lookup ("_law_tests" : Str) = some c_law_tests
  B : T.lookup ("_law_bad_forests" : Str) = some c_law_bad_forests
  Y : T.lookup ("_law_row_tree" : Str) = some c_law_row_tree
  F : T.lookup ("votes_form" : Str) = some c_votes_form
  f1 : Φ "_law_rounds" = run T 32 "_law_rounds"
  f2 : Φ "_law_forest" = run T 32 "_law_forest"
  f3 : Φ "is_forest" = run T 32 "is_forest"
  f4 : Φ "count_leaves" = run T 32 "count_leaves"
  f5 : Φ "_law_tests" = run T 32 "_law_tests"
  f6 : Φ "_law_bad_forests" = run T 32 "_law_bad_forests"
  f7 : Φ "_law_row_tree" = run T 32 "_law_row_tree"
  t1 : Φ "told count_leaves" = toldF nm P q (run T 30 "count_leaves")
  t2 : Φ "told votes_form" = toldF nm P q (run T 30 "votes_form")
  t3 : Φ "told joined" = toldF nm P q (run T 30 "joined")
def Bad (d : D) : Prop := smD d = true ∧ d.depth ≤ 64 ∧ isForestD d = false
section
variable {T : Tb} {Φ : Fn} {P : Addr} {q : Str} {m n k : Nat} {M : Mem}
theorem r_formX (L : LFor T) (h : T.lookup ("votes_form" : Str) = some c_votes_form) (hM : Cl M) {d : D} (hb : Bad d) : run T (k + 15) "votes_form" [.p d] M = .exc "InvalidForest" M := by
  rw [run_e h _ _ _ rfl]
  have h1 := r_need (k := k) L hM hb.1 hb.2.1
  rw [hb.2.2, if_neg (by decide)] at h1
  simp only [c_votes_form, List.map_cons, List.map_nil, List.length_cons, List.length_nil, Nat.reduceAdd, Nat.reduceSub, List.replicate, List.cons_append, List.nil_append, x_cons, s_exp, e_call, el_cons, el_nil, e_var, look_z, look_s, bind_okE, h1, thn_excE, sbind_exc, endD_exc]
  exact leaveX_same hM
def lf (n : Nat) : D := .tuple [.str "leaf", .tuple (List.replicate n (.int 0))]
/-- what is bad, of what is drawn -/
def bads (ks : List D) (n : Nat) (ts : List D) : List D :=
  [.none, .int 5, .list [.tuple ks, .int n, .tuple ts], .tuple [.tuple ks, .int n], .tuple [.tuple ks, .int n, .tuple ts, .int 0], .tuple [.tuple [], .int n, .tuple ts],
   .tuple [.list ks, .int n, .tuple ts],
   .tuple [.tuple [.str "0", .str "0", .str "0", .str "0"], .int n, .tuple [lf n]], .tuple [.tuple [.str "1"], .int n, .tuple [lf n]], .tuple [.tuple [.str "a"], .int n, .tuple [lf n]],
   .tuple [.tuple [.str "ba"], .int n, .tuple [lf n]],
   .tuple [.tuple [.str "abcde"], .int n, .tuple [lf n]], .tuple [.tuple [.str "aa"], .int n, .tuple [lf n]], .tuple [.tuple [.str "aB"], .int n, .tuple [lf n]],
   .tuple [.tuple [.int 0], .int n, .tuple [lf n]],
   .tuple [.tuple ks, .int 1, .tuple ts], .tuple [.tuple ks, .int 4, .tuple ts], .tuple [.tuple ks, .bool true, .tuple ts], .tuple [.tuple ks, .int n, .tuple []],
   .tuple [.tuple ks, .int n, .tuple [lf n, lf n, lf n, lf n, lf n]],
   .tuple [.tuple ks, .int n, .list [lf n]], .tuple [.tuple ks, .int n, .tuple [lf (n + 1)]],
   .tuple [.tuple ks, .int n, .tuple [.tuple (List.replicate n (.int 0))]],
   .tuple [.tuple ks, .int n, .tuple [.tuple [.str "leaf", .tuple (List.replicate n (.int 10))]]],
   .tuple [.tuple ks, .int n, .tuple [.tuple [.str "leaf", .tuple (List.replicate n (.bool true))]]], .tuple [.tuple ks, .int n, .tuple [.none]]]
def tests0 : List (List D) := [[.str "below", .int 0, fr 2 4], [.str "below", .int 0, fr 1 5], [.str "below", .int 0, fr 100 1], [.str "below", .int 1, fr 0 1], [.str "among", .int 0, .str "a"], [.str "at", .int 0, fr 0 1]]
def testsM : List (List D) := [[.str "among", .int 0, .str ""], [.str "among", .int 0, .str "ba"], [.str "among", .int 0, .str "c"], [.str "among", .bool true, .str "a"], [.str "below", .int 0, fr 0 1], [.str "among", .int 0, .str "a", .int 0]]
theorem bad0 : ∀ n ∈ [2, 3], ∀ t ∈ tests0, smD (.tuple [.tuple [.str "0"], .int (n : Nat), .tuple [.tuple (t ++ [lf n, lf n])]]) = true ∧ (PyData.tuple [.tuple [.str "0"], .int (n : Nat), .tuple [.tuple (t ++ [lf n, lf n])]]).depth ≤ 64 ∧ isForestD (.tuple [.tuple [.str "0"], .int (n : Nat), .tuple [.tuple (t ++ [lf n, lf n])]]) = false := by decide +kernel
theorem badM : ∀ n ∈ [2, 3], ∀ t ∈ testsM, smD (.tuple [.tuple [.str "ab"], .int (n : Nat), .tuple [.tuple (t ++ [lf n, lf n])]]) = true ∧ (PyData.tuple [.tuple [.str "ab"], .int (n : Nat), .tuple [.tuple (t ++ [lf n, lf n])]]).depth ≤ 64 ∧ isForestD (.tuple [.tuple [.str "ab"], .int (n : Nat), .tuple [.tuple (t ++ [lf n, lf n])]]) = false := by decide +kernel
theorem mul4 (x : D) : bop .mul (.tuple [x]) (.int 4) = some (.tuple [x, x, x, x]) := mul1 x 4 (by decide) (by decide)
theorem mul5 (x : D) : bop .mul (.tuple [x]) (.int 5) = some (.tuple [x, x, x, x, x]) := mul1 x 5 (by decide) (by decide)
/-- the names of the def -/
def B (ks : List D) (n : Nat) (ts : List D) (o2 o3 o4 : Option U) : Env := [some (.p (.tuple [.tuple ks, .int n, .tuple ts])), some (.p (lf n)), o2, o3, o4, some (.p (.tuple ks)), some (.p (.int n)), some (.p (.tuple ts))]
theorem app_at {M : Mem} {ds : List D} (hl : ds.length < 1000) : (M ++ [Cell.pl ds])[M.length]? = some (.pl ds) ∧ isLstC (M ++ [Cell.pl ds])[M.length]? = true ∧ (∀ d, appC (M ++ [Cell.pl ds])[M.length]? (.p d) = some (.pl (ds ++ [d]))) ∧ ∀ c, (M ++ [Cell.pl ds]).set M.length c = M ++ [c] := by
  have hat : (M ++ [Cell.pl ds])[M.length]? = some (.pl ds) := by simp
  have hsz : ds.length < sizeLine := by rw [sz]; omega
  exact ⟨hat, by rw [hat]; rfl, fun d => by rw [hat]; simp [appC, hsz], fun c => by simp⟩
theorem loop (b : CSs) (w : Str) (hb : b = (.cons (.app (.var 2) (.tup (.cons (.tup (.cons (.lit (.str w)) .nil)) (.cons (.var 6) (.cons (.tup (.cons (.bin .add (.var 4) (.tup (.cons (.var 1) (.cons (.var 1) .nil)))) .nil)) .nil))))) .nil)) {ks : List D} {ts : List D} {ds : List D} (hl : ds.length < 900) (cs : List (List D)) (hc : cs.length ≤ 10) (hc5 : ∀ c ∈ cs, c.length ≤ 10) (o4 : Option U) :
    ∃ o4', exS Φ (.for_ (.nm 4) .seq (.cons (.var 3) .nil) b) (B ks n ts (some (.ref M.length)) (some (.p (.list (cs.map .tuple)))) o4) (M ++ [.pl ds]) = .next (B ks n ts (some (.ref M.length)) (some (.p (.list (cs.map .tuple)))) o4') (M ++ [.pl (ds ++ cs.map fun c => .tuple [.tuple [.str w], .int n, .tuple [.tuple (c ++ [lf n, lf n])]])]) := by
  obtain ⟨ρ', M', h1, ⟨o4', h2, h3⟩⟩ := forF_ix (ok := fun M1 => stands (M ++ [Cell.pl ds]) M1 [.p (.list (cs.map .tuple))]) (g := .nm 4) (b := exL Φ b) (I := fun i ρ M' => ∃ o4', ρ = B ks n ts (some (.ref M.length)) (some (.p (.list (cs.map .tuple)))) o4' ∧ M' = M ++ [.pl (ds ++ (cs.take i).map fun c => .tuple [.tuple [.str w], .int n, .tuple [.tuple (c ++ [lf n, lf n])]])]) (fun _ _ _ _ => by simp) ((cs.map .tuple).map .p) 0 (B ks n ts (some (.ref M.length)) (some (.p (.list (cs.map .tuple)))) o4) (M ++ [.pl ds]) (fun j x hx ρ M1 ⟨p4, e1, e2⟩ => by
      subst e1 e2
      rw [List.getElem?_map, List.getElem?_map] at hx
      cases hj : cs[j]? with
      | none => rw [hj] at hx; cases hx
      | some c =>
        rw [hj] at hx
        cases hx
        have hjl : j < cs.length := (List.getElem?_eq_some_iff.mp hj).1
        have hjc : cs[j] = c := (List.getElem?_eq_some_iff.mp hj).2
        have hcl := hc5 c (List.mem_of_getElem? hj)
        have hsz : c.length + 2 ≤ sizeLine := by rw [sz]; omega
        have hz1 : (1 : Nat) ≤ sizeLine := by rw [sz]; omega
        have hz2 : (2 : Nat) ≤ sizeLine := by rw [sz]; omega
        have hz3 : (3 : Nat) ≤ sizeLine := by rw [sz]; omega
        obtain ⟨a1, a2, a3, a4⟩ := app_at (M := M) (ds := ds ++ (cs.take (0 + j)).map fun c => .tuple [.tuple [.str w], .int n, .tuple [.tuple (c ++ [lf n, lf n])]]) (by simp; omega)
        refine ⟨B ks n ts (some (.ref M.length)) (some (.p (.list (cs.map .tuple)))) (some (.p (.tuple c))), B ks n ts (some (.ref M.length)) (some (.p (.list (cs.map .tuple)))) (some (.p (.tuple c))), M ++ [.pl (ds ++ ((cs.take (0 + j)).map fun c => .tuple [.tuple [.str w], .int n, .tuple [.tuple (c ++ [lf n, lf n])]]) ++ [.tuple [.tuple [.str w], .int n, .tuple [.tuple (c ++ [lf n, lf n])]]])], rfl, ?_, ⟨_, rfl, ?_⟩⟩
        · rw [hb]
          unfold B
          simp only [x_cons, e_app, e_var, look_z, look_s, thn_okE, a2, if_true, e_tup, el_cons, el_nil, e_lit, bind_okE, mkT, pures_cons, pures_nil, Option.map_some, List.length_cons, List.length_nil, Nat.reduceAdd, hz1, hz2, hz3, e_bin, op2_p, bop_addT, hsz, lift_s, of_someE, a3, a4, sbind_next, x_nil]
        · rw [List.take_succ_eq_append_getElem (by omega)]
          simp [hjc]) ⟨o4, rfl, by simp⟩
  subst h2 h3
  refine ⟨o4', ?_⟩
  rw [s_for]
  have hv : evL Φ (.cons (.var 3) .nil) (B ks n ts (some (.ref M.length)) (some (.p (.list (cs.map .tuple)))) o4) (M ++ [.pl ds]) = .ok [.p (.list (cs.map .tuple))] (M ++ [.pl ds]) := by simp [B]
  simp only [hv, thn_okE, walk_seqL, h1]
  simp
theorem cut2 (a b c : D) : cut [a, b, c] none (some 2) = [a, b] := rfl
theorem hzs (m : Nat) (h : m ≤ 1000) : m ≤ sizeLine := by rw [sz]; omega
theorem tail1 {ks ts ds : List D} (hl : ds.length < 800) (o3 o4 : Option U) : exL Φ t_law_bad_forests_1 (B ks n ts (some (.ref M.length)) o3 o4) (M ++ [.pl ds]) = .ret (.ref M.length) (M ++ [.pl ds]) := by
  simp [t_law_bad_forests_1, B]
theorem tail4 {ks ts ds : List D} (hl : ds.length < 700) (o4 : Option U) : exL Φ t_law_bad_forests_4 (B ks n ts (some (.ref M.length)) (some (.p (.list ((tests0.take 3).map .tuple)))) o4) (M ++ [.pl ds]) = .ret (.ref M.length) (M ++ [.pl (ds ++ (tests0.map fun c => .tuple [.tuple [.str "0"], .int n, .tuple [.tuple (c ++ [lf n, lf n])]]) ++ testsM.map fun c => .tuple [.tuple [.str "ab"], .int n, .tuple [.tuple (c ++ [lf n, lf n])]])]) := by
  obtain ⟨p4, g1⟩ := loop (Φ := Φ) (M := M) (n := n) b_law_bad_forests_3 "0" rfl (ks := ks) (ts := ts) (ds := ds) (by omega) tests0 (by decide) (by decide) o4
  obtain ⟨p5, g2⟩ := loop (Φ := Φ) (M := M) (n := n) b_law_bad_forests_2 "ab" rfl (ks := ks) (ts := ts) (ds := ds ++ tests0.map fun c => .tuple [.tuple [.str "0"], .int n, .tuple [.tuple (c ++ [lf n, lf n])]]) (by simp [tests0]; omega) testsM (by decide) (by decide) p4
  unfold t_law_bad_forests_4
  rw [x_cons, s_asg]
  have h1 : evE Φ (.bin .add (.var 3) (.lst (.cons (.tup (.cons (.lit (.str "below")) (.cons (.lit (.int 1)) (.cons (.tup (.cons (.lit (.int 0)) (.cons (.lit (.int 1)) .nil))) .nil)))) (.cons (.tup (.cons (.lit (.str "among")) (.cons (.lit (.int 0)) (.cons (.lit (.str "a")) .nil)))) (.cons (.tup (.cons (.lit (.str "at")) (.cons (.lit (.int 0)) (.cons (.tup (.cons (.lit (.int 0)) (.cons (.lit (.int 1)) .nil))) .nil)))) .nil))))) (B ks n ts (some (.ref M.length)) (some (.p (.list ((tests0.take 3).map .tuple)))) o4) (M ++ [.pl ds]) = .ok (.p (.list (tests0.map .tuple))) (M ++ [.pl ds]) := by
    simp [B, tests0, mkT, mkL, hzs]
  rw [h1]
  simp only [thn_okE, sbind_next]
  rw [x_cons]
  have e1 : (B ks n ts (some (.ref M.length)) (some (.p (.list ((tests0.take 3).map .tuple)))) o4).set 3 (some (.p (.list (tests0.map .tuple)))) = B ks n ts (some (.ref M.length)) (some (.p (.list (tests0.map .tuple)))) o4 := rfl
  rw [e1, g1]
  simp only [sbind_next]
  rw [x_cons, s_asg]
  have h2 : evE Φ (.lst (.cons (.tup (.cons (.lit (.str "among")) (.cons (.lit (.int 0)) (.cons (.lit (.str "")) .nil)))) (.cons (.tup (.cons (.lit (.str "among")) (.cons (.lit (.int 0)) (.cons (.lit (.str "ba")) .nil)))) (.cons (.tup (.cons (.lit (.str "among")) (.cons (.lit (.int 0)) (.cons (.lit (.str "c")) .nil)))) (.cons (.tup (.cons (.lit (.str "among")) (.cons (.lit (.bool true)) (.cons (.lit (.str "a")) .nil)))) .nil))))) (B ks n ts (some (.ref M.length)) (some (.p (.list (tests0.map .tuple)))) p4) (M ++ [.pl (ds ++ tests0.map fun c => .tuple [.tuple [.str "0"], .int n, .tuple [.tuple (c ++ [lf n, lf n])]])]) = .ok (.p (.list ((testsM.take 4).map .tuple))) (M ++ [.pl (ds ++ tests0.map fun c => .tuple [.tuple [.str "0"], .int n, .tuple [.tuple (c ++ [lf n, lf n])]])]) := by
    simp [testsM, mkT, mkL, hzs]
  rw [h2]
  simp only [thn_okE, sbind_next]
  rw [x_cons, s_asg]
  have h3 : evE Φ (.bin .add (.var 3) (.lst (.cons (.tup (.cons (.lit (.str "below")) (.cons (.lit (.int 0)) (.cons (.tup (.cons (.lit (.int 0)) (.cons (.lit (.int 1)) .nil))) .nil)))) (.cons (.tup (.cons (.lit (.str "among")) (.cons (.lit (.int 0)) (.cons (.lit (.str "a")) (.cons (.lit (.int 0)) .nil))))) .nil)))) (B ks n ts (some (.ref M.length)) (some (.p (.list ((testsM.take 4).map .tuple)))) p4) (M ++ [.pl (ds ++ tests0.map fun c => .tuple [.tuple [.str "0"], .int n, .tuple [.tuple (c ++ [lf n, lf n])]])]) = .ok (.p (.list (testsM.map .tuple))) (M ++ [.pl (ds ++ tests0.map fun c => .tuple [.tuple [.str "0"], .int n, .tuple [.tuple (c ++ [lf n, lf n])]])]) := by
    simp [B, testsM, mkT, mkL, hzs]
  have e2 : (B ks n ts (some (.ref M.length)) (some (.p (.list (tests0.map .tuple)))) p4).set 3 (some (.p (.list ((testsM.take 4).map .tuple)))) = B ks n ts (some (.ref M.length)) (some (.p (.list ((testsM.take 4).map .tuple)))) p4 := rfl
  rw [e2, h3]
  simp only [thn_okE, sbind_next]
  have e3 : (B ks n ts (some (.ref M.length)) (some (.p (.list ((testsM.take 4).map .tuple)))) p4).set 3 (some (.p (.list (testsM.map .tuple)))) = B ks n ts (some (.ref M.length)) (some (.p (.list (testsM.map .tuple)))) p4 := rfl
  rw [x_cons, e3, g2]
  simp only [sbind_next]
  exact tail1 (by simp [tests0, testsM]; omega) _ _
theorem step {s : CS} {rest : CSs} {ρ ρ1 : Env} {M M1 : Mem} {R : SR} (h : exS Φ s ρ M = .next ρ1 M1) (hr : exL Φ rest ρ1 M1 = R) : exL Φ (.cons s rest) ρ M = R := by
  rw [x_cons, h]; exact hr
theorem tail5 (h2 : 2 ≤ n) (h3 : n ≤ 3) {ks ts : List D} (o3 o4 : Option U) : exL Φ t_law_bad_forests_5 (B ks n ts (some (.p (.list ((bads ks n ts).take 20)))) o3 o4) M = .ret (.ref M.length) (M ++ [.pl (bads ks n ts ++ (tests0.map fun c => .tuple [.tuple [.str "0"], .int n, .tuple [.tuple (c ++ [lf n, lf n])]]) ++ testsM.map fun c => .tuple [.tuple [.str "ab"], .int n, .tuple [.tuple (c ++ [lf n, lf n])]])]) := by
  have m1 : bop .mul (.tuple [.int 0]) (.int ((n : Int) + 1)) = some (.tuple (List.replicate (n + 1) (.int 0))) := mul1 (.int 0) (n + 1) (by omega) (by omega)
  have m2 := mul1 (.int 10) n h2 (by omega)
  have m3 := mul1 (.bool true) n h2 (by omega)
  unfold t_law_bad_forests_5
  refine step (ρ1 := B ks n ts (some (.p (.list ((bads ks n ts).take 22)))) o3 o4) (M1 := M) (by simp [B, bads, mkT, mkL, hzs, lf, m1]) ?_
  refine step (ρ1 := B ks n ts (some (.p (.list ((bads ks n ts).take 23)))) o3 o4) (M1 := M) (by simp [B, bads, mkT, mkL, hzs, lf]) ?_
  refine step (ρ1 := B ks n ts (some (.p (.list ((bads ks n ts).take 24)))) o3 o4) (M1 := M) (by simp [B, bads, mkT, mkL, hzs, lf, m2]) ?_
  refine step (ρ1 := B ks n ts (some (.ref M.length)) o3 o4) (M1 := M ++ [.pl (bads ks n ts)]) (by simp [B, bads, mkT, mkL, hzs, m3, newU]) ?_
  refine step (ρ1 := B ks n ts (some (.ref M.length)) (some (.p (.list ((tests0.take 3).map .tuple)))) o4) (M1 := M ++ [.pl (bads ks n ts)]) (by simp [B, tests0, mkT, mkL, hzs]) ?_
  exact tail4 (by simp [bads]) o4
theorem tail6 (h2 : 2 ≤ n) (h3 : n ≤ 3) {ks ts : List D} (o3 o4 : Option U) : exL Φ t_law_bad_forests_6 (B ks n ts (some (.p (.list ((bads ks n ts).take 10)))) o3 o4) M = .ret (.ref M.length) (M ++ [.pl (bads ks n ts ++ (tests0.map fun c => .tuple [.tuple [.str "0"], .int n, .tuple [.tuple (c ++ [lf n, lf n])]]) ++ testsM.map fun c => .tuple [.tuple [.str "ab"], .int n, .tuple [.tuple (c ++ [lf n, lf n])]])]) := by
  unfold t_law_bad_forests_6
  refine step (ρ1 := B ks n ts (some (.p (.list ((bads ks n ts).take 11)))) o3 o4) (M1 := M) (by simp [B, bads, mkT, mkL, hzs]) ?_
  refine step (ρ1 := B ks n ts (some (.p (.list ((bads ks n ts).take 14)))) o3 o4) (M1 := M) (by simp [B, bads, mkT, mkL, hzs]) ?_
  refine step (ρ1 := B ks n ts (some (.p (.list ((bads ks n ts).take 15)))) o3 o4) (M1 := M) (by simp [B, bads, mkT, mkL, hzs]) ?_
  refine step (ρ1 := B ks n ts (some (.p (.list ((bads ks n ts).take 19)))) o3 o4) (M1 := M) (by simp [B, bads, mkT, mkL, hzs]) ?_
  refine step (ρ1 := B ks n ts (some (.p (.list ((bads ks n ts).take 20)))) o3 o4) (M1 := M) (by simp [B, bads, mkT, mkL, hzs, mul5]) ?_
  exact tail5 h2 h3 o3 o4
theorem r_bads (h : T.lookup ("_law_bad_forests" : Str) = some c_law_bad_forests) (hM : Cl M) (h2 : 2 ≤ n) (h3 : n ≤ 3) {ks ts : List D} : run T (k + 1) "_law_bad_forests" [.p (.tuple [.tuple ks, .int n, .tuple ts])] M = .ok (.p (.list (bads ks n ts ++ (tests0.map fun c => .tuple [.tuple [.str "0"], .int n, .tuple [.tuple (c ++ [lf n, lf n])]]) ++ testsM.map fun c => .tuple [.tuple [.str "ab"], .int n, .tuple [.tuple (c ++ [lf n, lf n])]]))) M := by
  rw [run_e h _ _ _ rfl]
  have m0 := mul1 (.int 0) n h2 (by omega)
  have key : exL (run T k) c_law_bad_forests.body [some (.p (.tuple [.tuple ks, .int n, .tuple ts])), none, none, none, none, none, none, none] M = .ret (.ref M.length) (M ++ [.pl (bads ks n ts ++ (tests0.map fun c => .tuple [.tuple [.str "0"], .int n, .tuple [.tuple (c ++ [lf n, lf n])]]) ++ testsM.map fun c => .tuple [.tuple [.str "ab"], .int n, .tuple [.tuple (c ++ [lf n, lf n])]])]) := by
    show exL (run T k) (.cons _ _) _ _ = _
    refine step (ρ1 := [some (.p (.tuple [.tuple ks, .int n, .tuple ts])), none, none, none, none, some (.p (.tuple ks)), some (.p (.int n)), some (.p (.tuple ts))]) (M1 := M) (by simp [put, setAll]) ?_
    refine step (ρ1 := B ks n ts none none none) (M1 := M) (by simp [B, mkT, hzs, m0, lf]) ?_
    refine step (ρ1 := B ks n ts (some (.p (.list ((bads ks n ts).take 6)))) none none) (M1 := M) (by simp [B, bads, mkT, mkL, hzs, slD, optI, cut2]) ?_
    refine step (ρ1 := B ks n ts (some (.p (.list ((bads ks n ts).take 7)))) none none) (M1 := M) (by simp [B, bads, mkT, mkL, hzs]) ?_
    refine step (ρ1 := B ks n ts (some (.p (.list ((bads ks n ts).take 10)))) none none) (M1 := M) (by simp [B, bads, mkT, mkL, hzs, mul4]) ?_
    exact tail6 h2 h3 none none
  have e0 : (List.map some [U.p (.tuple [.tuple ks, .int n, .tuple ts])] ++ List.replicate (c_law_bad_forests.N.length - [U.p (.tuple [.tuple ks, .int n, .tuple ts])].length) none : Env) = [some (.p (.tuple [.tuple ks, .int n, .tuple ts])), none, none, none, none, none, none, none] := rfl
  rw [e0, key, endD_ret]
  unfold leave
  have ht : (M ++ [Cell.pl (bads ks n ts ++ (tests0.map fun c => .tuple [.tuple [.str "0"], .int n, .tuple [.tuple (c ++ [lf n, lf n])]]) ++ testsM.map fun c => .tuple [.tuple [.str "ab"], .int n, .tuple [.tuple (c ++ [lf n, lf n])]])]).take M.length = M := by simp
  rw [ht]
  have hc : c_law_bad_forests.keep = false := rfl
  unfold Cl at hM
  rw [hc, hM]
  simp [frz]
/-- all of them are bad -/
theorem all_bad {f : Fo} (hf : f.Ok) : ∀ d ∈ bads (f.kinds.map .str) f.n (f.ts.map Tr.enc), Bad d := by
  have hk : smL (f.kinds.map .str) = true := sm_map fun k hk => hf.smK k hk
  have ht : smL (f.ts.map Tr.enc) = true := sm_map fun t ht => t.sm (by have := hf.n3; omega) (hf.tt t ht)
  have hkd : PyData.depthAll (f.kinds.map .str) ≤ 0 := dep_map fun k hk => by simp [PyData.depth]
  have htd : PyData.depthAll (f.ts.map Tr.enc) ≤ 9 := dep_map fun t ht => by
    have := t.dep; have := (hf.t8 t ht).1; omega
  have h1 := hf.k1; have h2 := hf.k3; have h3 := hf.t1; have h4 := hf.t4
  have hstr : strsD (f.kinds.map .str) = some f.kinds := strsD_map _
  have hn : f.n = 2 ∨ f.n = 3 := by have := hf.n2; have := hf.n3; omega
  have htl : (f.ts.map Tr.enc).length ≤ 4 := by simpa using hf.t4
  generalize f.ts.map Tr.enc = ts at *
  have hkl : (f.kinds.map PyData.str).length = f.kinds.length := by simp
  generalize f.kinds = kinds at *
  generalize hks : kinds.map PyData.str = ks at *
  have sS : ∀ x ∈ (["leaf", "0", "1", "a", "ba", "abcde", "aa", "aB"] : List Str), smS x = true := by decide +kernel
  have l1 := sS "leaf" (by simp); have l2 := sS "0" (by simp); have l3 := sS "1" (by simp); have l4 := sS "a" (by simp); have l5 := sS "ba" (by simp); have l6 := sS "abcde" (by simp); have l7 := sS "aa" (by simp); have l8 := sS "aB" (by simp)
  have c1 : ∀ n ∈ [2, 3], ∀ ks ∈ [[PyData.str "0", .str "0", .str "0", .str "0"], [.str "1"], [.str "a"], [.str "ba"], [.str "abcde"], [.str "aa"], [.str "aB"], [.int 0]], Bad (.tuple [.tuple ks, .int (n : Nat), .tuple [lf n]]) := by
    have : ∀ n ∈ [2, 3], ∀ ks ∈ [[PyData.str "0", .str "0", .str "0", .str "0"], [.str "1"], [.str "a"], [.str "ba"], [.str "abcde"], [.str "aa"], [.str "aB"], [.int 0]], smD (.tuple [.tuple ks, .int (n : Nat), .tuple [lf n]]) = true ∧ (PyData.tuple [.tuple ks, .int (n : Nat), .tuple [lf n]]).depth ≤ 64 ∧ isForestD (.tuple [.tuple ks, .int (n : Nat), .tuple [lf n]]) = false := by decide +kernel
    exact this
  have hmem : f.n ∈ [2, 3] := by rcases hn with h | h <;> simp [h]
  generalize f.n = n at *
  have hkl3 : ks.length ≤ 1000 := by omega
  have r0 : ∀ x : D, ∀ m : Nat, (∀ y, y = x → smD y = true) → smL (List.replicate m x) = true := fun x m hx => by
    induction m with
    | zero => rfl
    | succ m ih => rw [List.replicate_succ, smL, hx x rfl, ih]; rfl
  have d0 : ∀ x : D, ∀ m : Nat, x.depth = 0 → PyData.depthAll (List.replicate m x) ≤ 0 := fun x m hx => by
    induction m with
    | zero => simp [PyData.depthAll]
    | succ m ih => rw [List.replicate_succ, PyData.depthAll, hx]; omega
  intro d hd
  simp only [bads, List.mem_cons, List.not_mem_nil, or_false] at hd
  rcases hd with rfl | rfl | rfl | rfl | rfl | rfl | rfl | rfl | rfl | rfl | rfl | rfl | rfl | rfl | rfl | rfl | rfl | rfl | rfl | rfl | rfl | rfl | rfl | rfl | rfl | rfl
  · exact ⟨rfl, by decide, rfl⟩
  · exact ⟨rfl, by decide, rfl⟩
  · exact ⟨by simp [smD, smL, hk, ht, hkl3]; omega, by simp only [PyData.depth, PyData.depthAll]; omega, rfl⟩
  · exact ⟨by simp [smD, smL, hk, hkl3], by simp only [PyData.depth, PyData.depthAll]; omega, rfl⟩
  · exact ⟨by simp [smD, smL, hk, ht, hkl3]; omega, by simp only [PyData.depth, PyData.depthAll]; omega, rfl⟩
  · exact ⟨by simp [smD, smL, ht]; omega, by simp only [PyData.depth, PyData.depthAll]; omega, by simp [isForestD]⟩
  · exact ⟨by simp [smD, smL, hk, ht, hkl3]; omega, by simp only [PyData.depth, PyData.depthAll]; omega, rfl⟩
  · exact c1 n hmem _ (by simp)
  · exact c1 n hmem _ (by simp)
  · exact c1 n hmem _ (by simp)
  · exact c1 n hmem _ (by simp)
  · exact c1 n hmem _ (by simp)
  · exact c1 n hmem _ (by simp)
  · exact c1 n hmem _ (by simp)
  · exact c1 n hmem _ (by simp)
  · exact ⟨by simp [smD, smL, hk, ht, hkl3]; omega, by simp only [PyData.depth, PyData.depthAll]; omega, by simp [isForestD, wholeD]⟩
  · exact ⟨by simp [smD, smL, hk, ht, hkl3]; omega, by simp only [PyData.depth, PyData.depthAll]; omega, by simp [isForestD, wholeD]⟩
  · exact ⟨by simp [smD, smL, hk, ht, hkl3]; omega, by simp only [PyData.depth, PyData.depthAll]; omega, by simp [isForestD, wholeD]⟩
  · exact ⟨by simp [smD, smL, hk, hkl3], by simp only [PyData.depth, PyData.depthAll]; omega, by simp [isForestD, treesD]⟩
  · refine ⟨?_, ?_, by simp [isForestD, treesD]⟩
    · have := r0 (.int 0) n (fun y hy => by rw [hy]; rfl)
      simp [smD, smL, hk, hkl3, lf, l1, this]; omega
    · have := d0 (.int 0) n rfl
      simp only [lf, PyData.depth, PyData.depthAll]; omega
  · refine ⟨?_, ?_, by simp [isForestD, treesD]⟩
    · have := r0 (.int 0) n (fun y hy => by rw [hy]; rfl)
      simp [smD, smL, hk, hkl3, lf, l1, this]; omega
    · have := d0 (.int 0) n rfl
      simp only [lf, PyData.depth, PyData.depthAll]; omega
  · refine ⟨?_, ?_, ?_⟩
    · have := r0 (.int 0) (n + 1) (fun y hy => by rw [hy]; rfl)
      simp [smD, smL, hk, hkl3, lf, l1, this]; omega
    · have := d0 (.int 0) (n + 1) rfl
      simp only [lf, PyData.depth, PyData.depthAll]; omega
    · have : smallTreeD kinds n (lf (n + 1)) = false := by
        have h : areVotesD (.tuple (List.replicate (n + 1) (.int 0))) (n : Int) = false := by
          simp [areVotesD]; omega
        simp [smallTreeD, lf, isTreeD, h]
      simp [isForestD, treesD, restD, hstr, this]
  · refine ⟨?_, ?_, ?_⟩
    · have := r0 (.int 0) n (fun y hy => by rw [hy]; rfl)
      simp [smD, smL, hk, hkl3, this]; omega
    · have := d0 (.int 0) n rfl
      simp only [PyData.depth, PyData.depthAll]; omega
    · have : smallTreeD kinds n (.tuple (List.replicate n (.int 0))) = false := by
        rcases hn with rfl | rfl <;> rfl
      simp [isForestD, treesD, restD, hstr, this]
  · refine ⟨?_, ?_, ?_⟩
    · have := r0 (.int 10) n (fun y hy => by rw [hy]; rfl)
      simp [smD, smL, hk, hkl3, l1, this]; omega
    · have := d0 (.int 10) n rfl
      simp only [PyData.depth, PyData.depthAll]; omega
    · have : smallTreeD kinds n (.tuple [.str "leaf", .tuple (List.replicate n (.int 10))]) = false := by
        have h : areVotesD (.tuple (List.replicate n (.int 10))) (n : Int) = false := by
          rcases hn with rfl | rfl <;> decide
        simp [smallTreeD, isTreeD, h]
      simp [isForestD, treesD, restD, hstr, this]
  · refine ⟨?_, ?_, ?_⟩
    · have := r0 (.bool true) n (fun y hy => by rw [hy]; rfl)
      simp [smD, smL, hk, hkl3, l1, this]; omega
    · have := d0 (.bool true) n rfl
      simp only [PyData.depth, PyData.depthAll]; omega
    · have : smallTreeD kinds n (.tuple [.str "leaf", .tuple (List.replicate n (.bool true))]) = false := by
        have h : areVotesD (.tuple (List.replicate n (.bool true))) (n : Int) = false := by
          rcases hn with rfl | rfl <;> decide
        simp [smallTreeD, isTreeD, h]
      simp [isForestD, treesD, restD, hstr, this]
  · refine ⟨by simp [smD, smL, hk, hkl3], by simp only [PyData.depth, PyData.depthAll]; omega, ?_⟩
    have : smallTreeD kinds n .none = false := by simp [smallTreeD, isTreeD]
    simp [isForestD, treesD, restD, hstr, this]
/-- a row of tests -/
def rowD (l : D) : Nat → D
  | 0 => l
  | i + 1 => .tuple [.str "below", .int 0, fr i 1, l, rowD l i]
theorem r_row (h : T.lookup ("_law_row_tree" : Str) = some c_law_row_tree) (hM : Cl M) {l : D} {w : Nat} (h1 : 1 ≤ w) (h2 : w ≤ 100) : run T (k + 1) "_law_row_tree" [.p (.int w), .p l] M = .ok (.p (rowD l (w - 1))) M := by
  rw [run_e h _ _ _ rfl]
  have e1 : (w : Int) - 1 = ((w - 1 : Nat) : Int) := by omega
  simp only [c_law_row_tree, List.map_cons, List.map_nil, List.length_cons, List.length_nil, Nat.reduceAdd, Nat.reduceSub, List.replicate, List.cons_append, List.nil_append, x_cons, s_asg, e_var, look_z, look_s, thn_okE, List.set, sbind_next, s_for, el_cons, el_nil, e_bin, e_lit, bind_okE, op2_p, bop_sub, lift_s, of_someE, e1, walk_range _ _ (show w - 1 < 1000000 by omega)]
  generalize hb : (exL (run T k) (CSs.cons _ CSs.nil) : Env → Mem → SR) = b
  obtain ⟨ρ', M', g1, ⟨o3, g2, g3⟩⟩ := forF_ix (ok := fun M1 => stands M M1 [.p (.int ((w - 1 : Nat) : Int))]) (g := .nm 3) (b := b) (I := fun i ρ M' => ∃ o3, ρ = [some (.p (.int w)), some (.p l), some (.p (rowD l i)), o3] ∧ M' = M) (fun _ _ _ _ => by simp) ((up 0 (w - 1)).map .p) 0 [some (.p (.int w)), some (.p l), some (.p l), none] M (fun j x hx ρ M1 ⟨p3, e2, e3⟩ => by
    subst e2 e3
    rw [up_map, List.getElem?_map, List.getElem?_map] at hx
    have hj : j < w - 1 := by
      by_cases hj : j < w - 1
      · exact hj
      · rw [List.getElem?_eq_none (by simp; omega)] at hx; cases hx
    rw [List.getElem?_range hj] at hx
    cases hx
    refine ⟨[some (.p (.int w)), some (.p l), some (.p (rowD l (0 + j))), some (.p (.int j))], [some (.p (.int w)), some (.p l), some (.p (rowD l (0 + j + 1))), some (.p (.int j))], M1, rfl, ?_, ⟨_, rfl, rfl⟩⟩
    rw [← hb]
    simp [mkT, hzs, rowD]) ⟨none, rfl, rfl⟩
  subst g2 g3
  have hlen : 0 + ((up 0 (w - 1)).map U.p).length = w - 1 := by simp [up]
  rw [hlen] at g1
  simp [-stands_p, g1, hM]
def lf9 : D := .tuple [.str "leaf", .tuple [.int 9, .int (-9), .int 0]]
def wide : D := .tuple [.str "below", .int 0, fr (-99) 4, .tuple [.str "among", .int 1, .str "abcd", lf9, lf9], lf9]
def big1 : D := .tuple [.tuple [.str "0"], .int 3, .tuple [rowD lf9 7, rowD lf9 7, rowD lf9 7, rowD lf9 7]]
def big2 : D := .tuple [.tuple [.str "0"], .int 3, .tuple [rowD lf9 8]]
def big3 : D := .tuple [.tuple [.str "0", .str "abcd", .str "yz"], .int 3, .tuple [wide]]
def big4 : D := .tuple [.tuple [.str "0", .str "abce", .str "yz"], .int 3, .tuple [wide]]
theorem bigs : (smD big1 = true ∧ big1.depth ≤ 64 ∧ isForestD big1 = true) ∧ (smD big2 = true ∧ big2.depth ≤ 64 ∧ isForestD big2 = false) ∧ (smD big3 = true ∧ big3.depth ≤ 64 ∧ isForestD big3 = true) ∧ (smD big4 = true ∧ big4.depth ≤ 64 ∧ isForestD big4 = false) := by decide +kernel
theorem eqE : eqD (.tuple [.str "error", .str "InvalidForest"]) (.tuple [.str "error", .str "InvalidForest"]) = some true := by decide +kernel
def E (n : Nat) (f : Fo) (o0 o3 o4 o5 o6 : Option U) : Env := [o0, some (.ref n), some (.p f.enc), o3, o4, o5, o6]
theorem refused (L : Lib T Φ P q) {f : Fo} (hf : f.Ok) (hS : Sto P q m M) (ds : List D) (hb : ∀ d ∈ ds, Bad d) (o0 o3 o4 o5 o6 : Option U) :
    ∃ o3', forF (fun M1 => stands M M1 [.p (.list ds)]) (.nm 3) (exL Φ b_lawK05_1) (ds.map .p) (E n f o0 o3 o4 o5 o6) M = .next (E n f o0 o3' o4 o5 o6) M := by
  obtain ⟨ρ', M', h1, ⟨o3', h2⟩, h3⟩ := forF_inv (ok := fun M1 => stands M M1 [.p (.list ds)]) (g := .nm 3) (b := exL Φ b_lawK05_1) (I := fun ρ M' => (∃ o3', ρ = E n f o0 o3' o4 o5 o6) ∧ M' = M) (fun _ _ _ => by simp) (ds.map .p) (E n f o0 o3 o4 o5 o6) M (fun x hx ρ M1 ⟨⟨p3, e1⟩, e2⟩ => by
    subst e1 e2
    obtain ⟨d, hd, rfl⟩ := List.mem_map.mp hx
    have hbd := hb d hd
    have b1 := hbd.1
    have b2 := hbd.2.1
    have b3 := hbd.2.2
    have e0 := r_forest (k := 19) L.C.toLFor hS.cl b1 b2
    rw [b3] at e0
    have e1 := r_leavesX (k := 15) L.C hS.cl b1 b2 b3
    have e2 := r_formX (k := 15) L.C.toLFor L.F hS.cl hbd
    have e3 := r_joinedX (k := 13) L.W L.J hS.cl hf b1 b2 b3
    have g1 : Φ "told count_leaves" [.p d] M1 = .ok (.p (.tuple [.str "error", .str "InvalidForest"])) M1 := by rw [L.t1]; exact told_exc hS.tb e1 (by decide)
    have g2 : Φ "told votes_form" [.p d] M1 = .ok (.p (.tuple [.str "error", .str "InvalidForest"])) M1 := by rw [L.t2]; exact told_exc hS.tb e2 (by decide)
    have g3 : Φ "told joined" [.p f.enc, .p d] M1 = .ok (.p (.tuple [.str "error", .str "InvalidForest"])) M1 := by rw [L.t3]; exact told_exc hS.tb e3 (by decide)
    have hz2 : (2 : Nat) ≤ sizeLine := by rw [sz]; omega
    refine ⟨E n f o0 (some (.p d)) o4 o5 o6, E n f o0 (some (.p d)) o4 o5 o6, M1, rfl, ?_, ⟨_, rfl⟩, rfl⟩
    simp only [E, b_lawK05_1, x_cons, s_iff, e_boo, b_or, b_nil, e_call, e_cmp, e_told, el_cons, el_nil, e_var, look_z, look_s, bind_okE, calm_okE, L.f3, e0, g1, g2, g3, e_tup, e_lit, mkT, pures_cons, pures_nil, Option.map_some, List.length_cons, List.length_nil, Nat.reduceAdd, hz2, if_true, op2r_p, cop_ne, eqE, Bool.not_true, liftB_s, of_someE, thn_okE, brU_b, Bool.false_eq_true, if_false, x_nil, sbind_next]) ⟨⟨o3, rfl⟩, rfl⟩
  subst h2 h3
  exact ⟨o3', h1⟩
theorem round (L : Lib T Φ P q) (hS : Sto P q m M) (h1 : 1 ≤ n) (h2 : n ≤ m) (o0 o2 o3 o4 o5 o6 : Option U) :
    ∃ ρ' M', exL Φ b_lawK05_2 [o0, some (.ref n), o2, o3, o4, o5, o6] M = .next ρ' M' ∧ (∃ p1 p2 p3 p4 p5 p6, ρ' = [o0, p1, p2, p3, p4, p5, p6]) ∧ Sto P q m M' := by
  obtain ⟨f, M1, e1, hD, u1⟩ := r_forestD (k := 15) L.D hS.cl (hS.dc n h1 h2) (trees := 4) (leaves := 8) (by decide) (by decide) (by decide) (by decide)
  have e1 : run T 32 "_law_forest" [.ref n, .p (.int 4), .p (.int 8)] M = .ok (.p f.enc) M1 := e1
  have hf := hD.ok (by decide) (by decide)
  have hS1 := hS.up u1 h1
  have e2 := r_forest (k := 19) L.C.toLFor hS1.cl hf.sm (by have := hf.dep; omega)
  rw [hf.is] at e2
  have e3 := r_leaves (k := 17) L.C hS1.cl hf
  have ht4 := hf.t4
  have lc : evE Φ (.lc (.nm 6) [6] .seq (.cons (.ix (.var 2) (.lit (.int 2))) .nil) .nil (.bin .add (.prim .len (.cons (.call "_law_tests" (.cons (.var 6) .nil)) .nil)) (.lit (.int 1)))) (E n f o0 o3 o4 o5 o6) M1 = .ok (.p (.list ((f.ts.map fun t => (t.leaves : Int)).map .int))) M1 := by
    rw [List.map_map]
    refine lc_mapA (e := Tr.enc) (us := [.p (.tuple (f.ts.map Tr.enc))]) (by simp [Fo.enc, E]) (by simp) (by simp) (by rw [sz]; omega) fun t ht => ⟨_, rfl, ?_⟩
    have h8 := hf.t8 t ht
    have hts := r_tests (M := M1) L.S hS1.cl t (31 - t.depth) (by omega) (by omega)
    rw [show 31 - t.depth + t.depth + 1 = 32 by omega] at hts
    have htl : (t.tests.length : Int) + 1 = (t.leaves : Int) := by have := t.tests_len; omega
    simp [E, wipeE, L.f5, hts, htl]
  have hs : (f.ts.map fun t => (t.leaves : Int)).sum = (f.leaves : Int) := by
    unfold Fo.leaves
    rw [← sum_cast, List.map_map]; rfl
  have e4 := r_bads (k := 31) L.B hS1.cl hf.n2 hf.n3 (ks := f.kinds.map .str) (ts := f.ts.map Tr.enc)
  have hmem : f.n ∈ [2, 3] := by
    have : f.n = 2 ∨ f.n = 3 := by have := hf.n2; have := hf.n3; omega
    rcases this with h | h <;> simp [h]
  obtain ⟨o3', e5⟩ := refused (n := n) L hf hS1 (bads (f.kinds.map .str) f.n (f.ts.map Tr.enc) ++ (tests0.map fun c => .tuple [.tuple [.str "0"], .int f.n, .tuple [.tuple (c ++ [lf f.n, lf f.n])]]) ++ testsM.map fun c => .tuple [.tuple [.str "ab"], .int f.n, .tuple [.tuple (c ++ [lf f.n, lf f.n])]]) (fun d hd => by
    rcases List.mem_append.mp hd with hd | hd
    · rcases List.mem_append.mp hd with hd | hd
      · exact all_bad hf d hd
      · obtain ⟨t, ht, rfl⟩ := List.mem_map.mp hd
        exact bad0 f.n hmem t ht
    · obtain ⟨t, ht, rfl⟩ := List.mem_map.mp hd
      exact badM f.n hmem t ht) o0 o3 o4 o5 o6
  have y8 := r_row (k := 31) (M := M1) L.Y hS1.cl (l := lf9) (w := 8) (by decide) (by decide)
  have y8 : run T 32 "_law_row_tree" [.p (.int 8), .p lf9] M1 = .ok (.p (rowD lf9 7)) M1 := y8
  have y9 := r_row (k := 31) (M := M1) L.Y hS1.cl (l := lf9) (w := 9) (by decide) (by decide)
  have y9 : run T 32 "_law_row_tree" [.p (.int 9), .p lf9] M1 = .ok (.p (rowD lf9 8)) M1 := y9
  obtain ⟨⟨s1, d1, i1⟩, ⟨s2, d2, i2⟩, ⟨s3, d3, i3⟩, ⟨s4, d4, i4⟩⟩ := bigs
  have b1 := r_forest (k := 19) L.C.toLFor hS1.cl s1 d1
  have b2 := r_forest (k := 19) L.C.toLFor hS1.cl s2 d2
  have b3 := r_forest (k := 19) L.C.toLFor hS1.cl s3 d3
  have b4 := r_forest (k := 19) L.C.toLFor hS1.cl s4 d4
  rw [i1] at b1; rw [i2] at b2; rw [i3] at b3; rw [i4] at b4
  refine ⟨E n f o0 o3' (some (.p lf9)) (some (.p wide)) o6, M1, ?_, ⟨_, _, _, _, _, _, rfl⟩, hS1⟩
  unfold b_lawK05_2
  refine step (ρ1 := E n f o0 o3 o4 o5 o6) (M1 := M1) ?_ ?_
  · simp only [E, s_asg, e_call, el_cons, el_nil, e_var, e_lit, look_z, look_s, bind_okE, L.f2, e1, thn_okE, List.set]
  refine step (ρ1 := E n f o0 o3 o4 o5 o6) (M1 := M1) ?_ ?_
  · simp only [E, s_iff, e_nt, e_call, el_cons, el_nil, e_var, look_z, look_s, bind_okE, L.f3, e2, ntU_b, Bool.not_true, thn_okE, brU_b, Bool.false_eq_true, if_false, x_nil]
  refine step (ρ1 := E n f o0 o3 o4 o5 o6) (M1 := M1) ?_ ?_
  · rw [s_iff]
    have : evE Φ (.call "count_leaves" (.cons (.var 2) .nil)) (E n f o0 o3 o4 o5 o6) M1 = .ok (.p (.int (f.leaves : Nat))) M1 := by
      simp only [E, e_call, el_cons, el_nil, e_var, look_z, look_s, bind_okE, L.f4, e3]
    simp only [e_cmp, this, bind_okE, e_prim, el_cons, el_nil, lc, vals_p, vals_nil, Option.map_some, Option.bind_some, p_sum, intsD_map, hs, lift_s, of_someE, op2r_p, cop_ne, eqD_ii, decide_true, Bool.not_true, liftB_s, thn_okE, brU_b, Bool.false_eq_true, if_false, x_nil]
  refine step (ρ1 := E n f o0 o3' o4 o5 o6) (M1 := M1) ?_ ?_
  · rw [s_for]
    have : evL Φ (.cons (.call "_law_bad_forests" (.cons (.var 2) .nil)) .nil) (E n f o0 o3 o4 o5 o6) M1 = .ok [.p (.list (bads (f.kinds.map .str) f.n (f.ts.map Tr.enc) ++ (tests0.map fun c => .tuple [.tuple [.str "0"], .int f.n, .tuple [.tuple (c ++ [lf f.n, lf f.n])]]) ++ testsM.map fun c => .tuple [.tuple [.str "ab"], .int f.n, .tuple [.tuple (c ++ [lf f.n, lf f.n])]]))] M1 := by
      simp only [E, e_call, el_cons, el_nil, e_var, look_z, look_s, bind_okE, L.f6]
      have : f.enc = .tuple [.tuple (f.kinds.map .str), .int f.n, .tuple (f.ts.map Tr.enc)] := rfl
      rw [this, e4]
      rfl
    simp only [this, thn_okE, walk_seqL, e5]
  refine step (ρ1 := E n f o0 o3' (some (.p lf9)) o5 o6) (M1 := M1) ?_ ?_
  · simp [E, mkT, hzs, lf9]
  refine step (ρ1 := E n f o0 o3' (some (.p lf9)) o5 o6) (M1 := M1) ?_ ?_
  · have : evE Φ (.tup (.cons (.tup (.cons (.lit (.str "0")) .nil)) (.cons (.lit (.int 3)) (.cons (.bin .mul (.tup (.cons (.call "_law_row_tree" (.cons (.lit (.int 8)) (.cons (.var 4) .nil))) .nil)) (.lit (.int 4))) .nil)))) (E n f o0 o3' (some (.p lf9)) o5 o6) M1 = .ok (.p big1) M1 := by
      simp [E, mkT, hzs, L.f7, y8, mul4, big1]
    simp only [s_iff, e_nt, e_call, el_cons, el_nil, this, bind_okE, L.f3, b1, ntU_b, Bool.not_true, thn_okE, brU_b, Bool.false_eq_true, if_false, x_nil]
  refine step (ρ1 := E n f o0 o3' (some (.p lf9)) o5 o6) (M1 := M1) ?_ ?_
  · have : evE Φ (.tup (.cons (.tup (.cons (.lit (.str "0")) .nil)) (.cons (.lit (.int 3)) (.cons (.tup (.cons (.call "_law_row_tree" (.cons (.lit (.int 9)) (.cons (.var 4) .nil))) .nil)) .nil)))) (E n f o0 o3' (some (.p lf9)) o5 o6) M1 = .ok (.p big2) M1 := by
      simp [E, mkT, hzs, L.f7, y9, big2]
    simp only [s_iff, e_call, el_cons, el_nil, this, bind_okE, L.f3, b2, thn_okE, brU_b, Bool.false_eq_true, if_false, x_nil]
  refine step (ρ1 := E n f o0 o3' (some (.p lf9)) (some (.p wide)) o6) (M1 := M1) ?_ ?_
  · simp [E, mkT, hzs, wide]
  refine step (ρ1 := E n f o0 o3' (some (.p lf9)) (some (.p wide)) o6) (M1 := M1) ?_ ?_
  · have : evE Φ (.tup (.cons (.tup (.cons (.lit (.str "0")) (.cons (.lit (.str "abcd")) (.cons (.lit (.str "yz")) .nil)))) (.cons (.lit (.int 3)) (.cons (.tup (.cons (.var 5) .nil)) .nil)))) (E n f o0 o3' (some (.p lf9)) (some (.p wide)) o6) M1 = .ok (.p big3) M1 := by
      simp [E, mkT, hzs, big3]
    simp only [s_iff, e_nt, e_call, el_cons, el_nil, this, bind_okE, L.f3, b3, ntU_b, Bool.not_true, thn_okE, brU_b, Bool.false_eq_true, if_false, x_nil]
  refine step (ρ1 := E n f o0 o3' (some (.p lf9)) (some (.p wide)) o6) (M1 := M1) ?_ ?_
  · have : evE Φ (.tup (.cons (.tup (.cons (.lit (.str "0")) (.cons (.lit (.str "abce")) (.cons (.lit (.str "yz")) .nil)))) (.cons (.lit (.int 3)) (.cons (.tup (.cons (.var 5) .nil)) .nil)))) (E n f o0 o3' (some (.p lf9)) (some (.p wide)) o6) M1 = .ok (.p big4) M1 := by
      simp [E, mkT, hzs, big4]
    simp only [s_iff, e_call, el_cons, el_nil, this, bind_okE, L.f3, b4, thn_okE, brU_b, Bool.false_eq_true, if_false, x_nil]
  exact x_nil
theorem law (L : Lib T Φ P q) {ns : List Int} (hl : ns.length ≤ 63) : ∃ M', runDef Φ c_lawK05 [.scr (ns.map .int)] [.tab P q] = .ok (.p (.bool true)) M' := by
  have hM : Cl [Cell.tab P q] := by unfold Cl; rfl
  obtain ⟨cs, e1, h1, h5⟩ := r_rounds (k := 30) (M := [.tab P q]) L.R hM (ns := ns) (by omega) (most := 4) (by decide) (by decide)
  rw [runDef_e _ _ _ _ rfl]
  obtain ⟨ρ', M', g1, ⟨⟨p1, p2, p3, p4, p5, p6, hρ⟩, hS⟩⟩ := forF_inv (ok := fun M1 => stands ([.tab P q] ++ cs.map fun c => Cell.pl [.int c, .int 0]) M1 [.rl ((List.range cs.length).map fun i => [Cell.tab P q].length + i)]) (g := .nm 1) (b := exL Φ b_lawK05_2) (I := fun ρ M' => (∃ p1 p2 p3 p4 p5 p6, ρ = [some (.scr (ns.map .int)), p1, p2, p3, p4, p5, p6]) ∧ Sto P q cs.length M') (fun _ _ _ => by simp) (((List.range cs.length).map fun i => [Cell.tab P q].length + i).map .ref) [some (.scr (ns.map .int)), none, none, none, none, none, none] ([.tab P q] ++ cs.map fun c => Cell.pl [.int c, .int 0]) (fun x hx ρ M1 ⟨⟨p1, p2, p3, p4, p5, p6, e⟩, hS⟩ => by
    subst e
    obtain ⟨i, hi, rfl⟩ := List.mem_map.mp hx
    obtain ⟨j, hj, rfl⟩ := List.mem_map.mp hi
    have hj := List.mem_range.mp hj
    have hl1 : [Cell.tab P q].length = 1 := rfl
    obtain ⟨ρ', M', q1, q2, q3⟩ := round (n := [Cell.tab P q].length + j) L hS (by omega) (by omega) (some (.scr (ns.map .int))) p2 p3 p4 p5 p6
    exact ⟨_, ρ', M', rfl, q1, q2, q3⟩) ⟨⟨_, _, _, _, _, _, rfl⟩, sto_start cs⟩
  have hw : walk ([.tab P q] ++ cs.map fun c => Cell.pl [.int c, .int 0]) .seq [.rl ((List.range cs.length).map fun i => [Cell.tab P q].length + i)] = some (((List.range cs.length).map fun i => [Cell.tab P q].length + i).map .ref) := rfl
  have e5 : (4 : Int) = ((4 : Nat) : Int) := rfl
  simp only [c_lawK05, List.map_cons, List.map_nil, List.length_cons, List.length_nil, Nat.reduceAdd, Nat.reduceSub, List.replicate, List.cons_append, List.nil_append] at e1 g1 hw ⊢
  rw [x_cons, s_for]
  simp only [el_cons, el_nil, e_call, e_var, e_lit, look_z, look_s, bind_okE, L.f1, e5, e1, thn_okE, hw, g1, sbind_next, x_cons, s_ret, sbind_ret, endD_ret]
  unfold leave
  have ht : (M'.take 1).all (Cell.below 1) = true := by
    obtain ⟨c, hc⟩ : ∃ r, M' = .tab P q :: r := by
      have := hS.tb
      cases M' with
      | nil => cases this
      | cons c r => simp at this; exact ⟨r, by rw [this]⟩
    rw [hc]; rfl
  refine ⟨M'.take 1, ?_⟩
  simp [ht, frz]
end
end K05
end VW
end
set_option maxHeartbeats 0
namespace VW
namespace K05
open PySem PySem.Spec PyProof.Rows L2 LamX
def top (i : Nat) : Stmt := PySem.Challenge.pw_votewoods_k05_whole_forests.main.body.getD i (.Pass ⟨0, 0, 0, 0⟩)
def T : List Entry := [⟨"divisor", top 14, c_divisor⟩, ⟨"is_whole", top 19, c_is_whole⟩, ⟨"is_fraction", top 20, c_is_fraction⟩, ⟨"are_marks", top 24, c_are_marks⟩, ⟨"is_kind", top 25, c_is_kind⟩, ⟨"are_votes", top 26, c_are_votes⟩, ⟨"is_tree_of", top 27, c_is_tree_of⟩, ⟨"count_of", top 28, c_count_of⟩] ++ [⟨"is_small_tree", top 29, c_is_small_tree⟩, ⟨"is_forest", top 30, c_is_forest⟩, ⟨"need_forest", top 31, c_need_forest⟩, ⟨"need_two", top 32, c_need_two⟩, ⟨"count_leaves", top 33, c_count_leaves⟩, ⟨"votes_form", top 52, c_votes_form⟩, ⟨"need_alike", top 53, c_need_alike⟩, ⟨"joined", top 55, c_joined⟩] ++ [⟨"_law_cell", top 57, c_law_cell⟩, ⟨"_law_drawn", top 58, c_law_drawn⟩, ⟨"_law_roll", top 59, c_law_roll⟩, ⟨"_law_rounds", top 60, c_law_rounds⟩, ⟨"_law_low", top 63, c_law_low⟩, ⟨"_law_kinds", top 64, c_law_kinds⟩, ⟨"_law_place", top 65, c_law_place⟩, ⟨"_law_some_marks", top 66, c_law_some_marks⟩] ++ [⟨"_law_tree", top 67, c_law_tree⟩, ⟨"_law_forest_of", top 68, c_law_forest_of⟩, ⟨"_law_forest", top 69, c_law_forest⟩, ⟨"_law_tests", top 70, c_law_tests⟩, ⟨"_law_bad_forests", top 71, c_law_bad_forests⟩, ⟨"_law_row_tree", top 72, c_law_row_tree⟩]
def lawE : Entry := ⟨"law", top 73, c_lawK05⟩
def names : List Str := ["InvalidForest", "NoFit", "TooMany"]
def tolds : List (Str × Str) := [("told joined", "joined"), ("told votes_form", "votes_form"), ("told count_leaves", "count_leaves")]
def G : St0 := { ar := arOf T, consts := [("LETTERS", .str "abcdefghijklmnopqrstuvwxyz"), ("MOST_LEAVES", .int 8)], free := ["abs", "all", "bool", "int", "isinstance", "len", "list", "max", "min", "range", "set", "sorted", "str", "sum", "tuple"], excs := ["InvalidForest", "NoFit", "TooMany"] }
def row : LawRow := { G := G, T := T, law := lawE, stT := top 62, stM := top 61, NM := NM4, tolds := tolds, names := names, ve := "VoteError" }
theorem ok : row.Ok where
  told := rfl
  ar := rfl
  chk := by decide +kernel
  simp := by decide +kernel
  cons := by decide +kernel
  law := by decide +kernel
  lawP := rfl
  lawS := by decide +kernel
  ap := fun f ps h => by
    have h1 : (arOf T).all (fun p => decide (tolds.lookup p.1 = none)) = true := by decide +kernel
    exact of_decide_eq_true (List.all_eq_true.mp h1 _ (mem_lookup' h))
  toldS := by decide +kernel
  toldP := by decide +kernel
  termS := by decide +kernel
  termP := by decide +kernel
  NM1 := by decide
  body := ⟨_, _, _, _, _, _, _, _, _, _, rfl⟩
  gV := by decide +kernel
  gM := by decide +kernel
  lE := by decide +kernel
  lD := by decide +kernel
  oV := by decide +kernel
theorem term {K : PySem.W.Frag} {mg : Str → Option Value} {fm : Addr} {cdm : Value} (F : TermF K mg (He.ga K) names) : TermOk K mg (He.ga K) names "_law_term" row.stM row.NM fm cdm :=
  term_ok (st := top 61) F ⟨by decide +kernel, by decide +kernel, by decide +kernel, by decide +kernel, by decide +kernel, by decide +kernel, by decide +kernel⟩ rfl (by decide +kernel)
abbrev R : PySem.W.OpenRow := PySem.W.OpenLaw.row PySem.Challenge.rw_votewoods_k05_whole_forests
abbrev hk : PySem.W.Hook := He.hookX 4 row.fa row.fn [] [("law", none)] (exB names)
def ob (s : PySem.W.SharedT) : He.AlX := He.obsX 4 row.fa row.fn [] [("law", none)] (exB names) (HandSHeadRun.getT s)
theorem ob_eq (s : PySem.W.SharedT) : ob s = hk.obs s.abs := He.obsX_eq (HandSHeadRun.getT_eq s)
def loose : List PySem.Str := (["VoteError", "InvalidForest", "InvalidInput", "InvalidPart", "InvalidTree", "InvalidIndex", "InvalidBox", "InvalidFlag", "InvalidText", "NoFit", "TooMany", "NothingToUndo", "divisor", "lowest", "minus", "is_less", "rising", "is_whole", "is_fraction", "LETTERS", "MOST_LEAVES", "are_marks", "is_kind", "are_votes", "is_tree_of", "count_of", "is_small_tree", "is_forest", "need_forest", "need_two"] : List PySem.Str) ++ (["count_leaves", "leaf_of", "votes_of", "first_greatest", "tests_of", "axes_of", "size_of", "sizes_of", "all_boxes", "member", "input_of", "layer", "kept_numbers", "shrunk_axis", "shrunk", "table_of", "votes_form_of", "votes_form", "need_alike", "joined", "_law_cell", "_law_drawn", "_law_roll", "_law_rounds", "_law_term", "_law_told", "_law_low", "_law_kinds", "_law_place", "_law_some_marks"] : List PySem.Str) ++ (["_law_tree", "_law_forest_of", "_law_forest", "_law_tests", "_law_bad_forests", "_law_row_tree"] : List PySem.Str)
theorem run (w : World) : HandSHeadRun.RunEq R (PySem.W.view R.prog [73]) hk ob 6000 loose w := by
  intro os
  kernel_rfl
theorem law_at {w : World} {K : PySem.W.Frag} {mg : Str → Option Value} {fa : Addr} {h : Heap} {j : Nat} (KX : K.In h) (hns : h.Ns mainGlobals mg) (hmg : mg ("law" : Str) = some (.ref fa)) (c : He.SaysX row.fa row.fn [] [("law", none)] (exB names) w h K) (hp : Plain names tolds (tblOf T) j 63 c_lawK05 "law") :
    LawAtS PySem.Challenge.rw_votewoods_k05_whole_forests w K (L2N.CX PySem.Challenge.rw_votewoods_k05_whole_forests.prog w) (j + 3) 63 "script" mg fa h := by
  have hx := c.more
  unfold exB at hx
  rw [Bool.and_eq_true] at hx
  exact lawAt (r := row) ok KX hns hmg c hx.1 (fun fm cdm _ _ => term (termF_of KX hns hx.2 (by decide))) hp
end K05
end VW
theorem VW.K05.lib (P : PySem.Addr) (q : PySem.Str) : VW.K05.Lib (VW.tblOf VW.K05.T) (VW.lawF VW.K05.names P q VW.K05.tolds (VW.tblOf VW.K05.T) 30) P q := by
  repeat' (first | rfl | constructor)
theorem VW.K05.plain : VW.Plain VW.K05.names VW.K05.tolds (VW.tblOf VW.K05.T) 30 63 VW.c_lawK05 "law" := fun P ns hl _ => VW.K05.law (VW.K05.lib P _) hl
open PySem PySem.W PySem.Calls PyProof.Rows
set_option Elab.async false
set_option maxRecDepth 100000 in
set_option maxHeartbeats 0 in
theorem PySem.Challenge.cw_votewoods_k05_whole_forests_holds : PySem.Challenge.rw_votewoods_k05_whole_forests.Holds := by
  w_on; o_law
  refine HandSHeadRun.head_any (r := OpenLaw.row PySem.Challenge.rw_votewoods_k05_whole_forests) (q := view (OpenLaw.row PySem.Challenge.rw_votewoods_k05_whole_forests).prog [73]) (H := VW.K05.hk) (ob := VW.K05.ob) (M := 6000) (loose := VW.K05.loose) (d := HandSHeadRun.topDef (OpenLaw.row PySem.Challenge.rw_votewoods_k05_whole_forests).prog 73) (kwd := []) VW.K05.ob_eq
    (by kernel_rfl) (fun s => by kernel_rfl) VW.K05.run (by kernel_rfl) (by kernel_rfl) (by kernel_rfl) (by rfl) (by first | assumption | decide +kernel) (by decide +kernel) ⟨rfl, rfl, rfl, rfl, rfl, by decide +kernel⟩ ?hw ?hc
  case hw => w_witness2
  case hc =>
    refine LamX.walk_ofTsE (l := PySem.Challenge.rw_votewoods_k05_whole_forests) (n := 63) (k := 33) (x := "script") (CX := fun w => L2N.CX PySem.Challenge.rw_votewoods_k05_whole_forests.prog w) rfl (by decide) (by kernel_rfl) ⟨rfl, by decide, by decide⟩ ?F ?X
    · intro w mg fa h Y G hmg0
      obtain ⟨K, KX, c⟩ := Y
      have hmg : mg ("law" : PySem.Str) = some (.ref fa) := by
        have e : (HandSHeadRun.topDef (OpenLaw.row PySem.Challenge.rw_votewoods_k05_whole_forests).prog 73).name = ("law" : PySem.Str) := by kernel_rfl
        rw [← e]
        exact hmg0
      exact ⟨K, KX, VW.K05.law_at (j := 30) KX G hmg c VW.K05.plain⟩
    · intro w H s e s' z
      exact VW.noCX z
