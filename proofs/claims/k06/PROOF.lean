import PyProof.Rows.All
import Wide.All
import OpenK.AllK
import Wide.FinOn
import KE.SortData
import KE.DataMinMax
import KE.DataCmp
import KE.DataEq
import HandS.List
import HandS.ForMost
import HandS.IsInst
import HandS.TupAny
import HandS.Flow
import HandS.Defaults
import KE.DataIsa
import PyProof.SeqIndex
import HandS.SetFor
import KE.DataFind
import HandS.Ends
import HandS.HeadEnd
import HandS.HeadHook2
import HandS.Head0
import HandS.Head1
import HandS.Head2
import HandS.Words
import PyProof.ReprLen
import PySem.Challenge.RW_levelvotes_k06_whole_wishes
set_option Elab.async false
set_option linter.all false
set_option maxRecDepth 100000
section
namespace Dv
open PySem

abbrev D := PyData

inductive Val where
  | d (x : D)
  | well
  | exc (c : Nat) (xs : List D)
  | clo (k : Nat) (ws : List D)

inductive M (α : Type) where
  | ok (a : α)
  | exn (c : Nat) (xs : List D)
  | bad
  | draw (n : Int) (k : Int → M α)

def M.bind {α β : Type} : M α → (α → M β) → M β
  | .ok a, f => f a
  | .exn c x, _ => .exn c x
  | .bad, _ => .bad
  | .draw n k, f => .draw n fun r => (k r).bind f
def M.Sat {α : Type} : M α → (α → Prop) → (Nat → List D → Prop) → Prop
  | .ok a, Q, _ => Q a
  | .exn c x, _, E => E c x
  | .bad, _, _ => False
  | .draw n k, Q, E => (0 < n ∧ n < 1073741824) ∧ ∀ r, 0 ≤ r → r < n → (k r).Sat Q E
theorem M.sat_bind {α β : Type} : ∀ (m : M α) (f : α → M β) (Q : β → Prop) (E : Nat → List D → Prop), (m.bind f).Sat Q E ↔ m.Sat (fun a => (f a).Sat Q E) E
  | .ok _, _, _, _ => Iff.rfl
  | .exn _ _, _, _, _ => Iff.rfl
  | .bad, _, _, _ => Iff.rfl
  | .draw n k, f, Q, E => by
    show ((0 < n ∧ n < 1073741824) ∧ ∀ r, 0 ≤ r → r < n → ((k r).bind f).Sat Q E) ↔ ((0 < n ∧ n < 1073741824) ∧ ∀ r, 0 ≤ r → r < n → (k r).Sat (fun a => (f a).Sat Q E) E)
    exact and_congr Iff.rfl (forall_congr' fun r => imp_congr Iff.rfl (imp_congr Iff.rfl (M.sat_bind (k r) f Q E)))
theorem M.Sat.mono {α : Type} : ∀ {m : M α} {Q Q' : α → Prop} {E E' : Nat → List D → Prop}, m.Sat Q E → (∀ a, Q a → Q' a) → (∀ c x, E c x → E' c x) → m.Sat Q' E'
  | .ok _, _, _, _, _, h, hq, _ => hq _ h
  | .exn _ _, _, _, _, _, h, _, he => he _ _ h
  | .bad, _, _, _, _, h, _, _ => h
  | .draw _ _, _, _, _, _, h, hq, he => ⟨h.1, fun r a b => (h.2 r a b).mono hq he⟩
/-- a run that holds has an end -/
theorem M.Sat.ex {α : Type} : ∀ {m : M α} {Q : α → Prop}, m.Sat Q (fun _ _ => False) → ∃ a, Q a
  | .ok a, _, h => ⟨a, h⟩
  | .exn _ _, _, h => h.elim
  | .bad, _, h => h.elim
  | .draw n k, _, h => M.Sat.ex (h.2 0 (Int.le_refl 0) h.1.1)
theorem M.bind_assoc {α β γ : Type} : ∀ (m : M α) (f : α → M β) (g : β → M γ), (m.bind f).bind g = m.bind fun a => (f a).bind g
  | .ok _, _, _ => rfl
  | .exn _ _, _, _ => rfl
  | .bad, _, _ => rfl
  | .draw n k, f, g => by
    show M.draw n (fun r => ((k r).bind f).bind g) = M.draw n fun r => (k r).bind fun a => (f a).bind g
    exact congrArg (M.draw n) (funext fun r => M.bind_assoc (k r) f g)
/-- exceptions are not let -/
def M.quiet {α : Type} : M α → M α
  | .ok a => .ok a
  | .exn _ _ => .bad
  | .bad => .bad
  | .draw n k => .draw n fun r => (k r).quiet
theorem M.quiet_sat {α : Type} : ∀ {m : M α} {Q : α → Prop} {E : Nat → List D → Prop}, m.quiet.Sat Q E → m.Sat Q (fun _ _ => False)
  | .ok _, _, _, h => h
  | .exn _ _, _, _, h => h
  | .bad, _, _, h => h
  | .draw _ _, _, _, h => ⟨h.1, fun r a b => M.quiet_sat (h.2 r a b)⟩

def gd (b : Bool) (x : D) : M Val := if b = true then .ok (.d x) else .bad
abbrev okd (x : D) : M Val := .ok (.d x)
def lim (n : Nat) : Bool := Nat.ble n 16777216
def Val.asD : Val → M D
  | .d x => .ok x
  | _ => .bad
def asB : Val → M Bool
  | .d (.bool b) => .ok b
  | _ => .bad
def asI : Val → M Int
  | .d (.int i) => .ok i
  | _ => .bad

inductive Slot where
  | v (x : Val)
  | own (x : D)
abbrev Rho := List (Option Slot)
def getV (ρ : Rho) (i : Nat) : M Val := match ρ[i]? with
  | some (some (.v x)) => .ok x
  | _ => .bad
def getR (ρ : Rho) (i : Nat) : M Val := match ρ[i]? with
  | some (some (.v x)) => .ok x
  | some (some (.own x)) => .ok (.d x)
  | _ => .bad

inductive Bf where
  | len | tuple | list | sorted | min | max | all | any | sum | repr | lenset | abs | int | divmod
  deriving DecidableEq
inductive Mt where
  | index | count
  deriving DecidableEq
inductive Ty where
  | int | bool | str | tuple | list | exc (c : Nat)
  deriving DecidableEq
inductive Tg where
  | nm (i : Nat)
  | tp (a : List Nat)
mutual
inductive Ex where
  | var (i : Nat)
  | rd (i : Nat)
  | con (x : PyData)
  | tup (es : Exs)
  | lst (es : Exs)
  | bin (o : Operator) (a b : Ex)
  | neg (a : Ex)
  | not_ (a : Ex)
  | and_ (a b : Ex)
  | or_ (a b : Ex)
  | cmp (o : CmpOp) (a b : Ex)
  | chain (o : CmpOp) (o2 : CmpOp) (a b c : Ex)
  | ite (c a b : Ex)
  | call (f : Nat) (es : Exs) (ks : List Nat)
  | blt (b : Bf) (es : Exs)
  | isa (a : Ex) (t : Ty)
  | mth (m : Mt) (a : Ex) (es : Exs)
  | idx (a i : Ex)
  | slc (a : Ex) (lo hi : Exo)
  | rev (a : Ex)
  | comp (elt : Ex) (tg : Tg) (it : Ix) (fs : Exs) (own : List Nat)
  | mkw (es : Exs)
inductive Exs where
  | nil
  | cons (e : Ex) (es : Exs)
inductive Exo where
  | no
  | yes (e : Ex)
inductive Ix where
  | seq (e : Ex)
  | rng (a : Ex)
  | rng2 (a b : Ex)
end

def plain2 (x y : D) : Bool := x.plain && y.plain && (Nat.ble x.depth 64 || Nat.ble y.depth 64)
def small64 (i : Int) : Bool := decide (-(2 ^ 64) < i) && decide (i < 2 ^ 64)
def binD : Operator → D → D → M Val
  | .Add, .int i, .int j => okd (.int (i + j))
  | .Sub, .int i, .int j => okd (.int (i - j))
  | .Mult, .int i, .int j => gd (small64 i || small64 j) (.int (i * j))
  | .Add, .tuple xs, .tuple ys => gd (lim (xs.length + ys.length)) (.tuple (xs ++ ys))
  | .Add, .list xs, .list ys => gd (lim (xs.length + ys.length)) (.list (xs ++ ys))
  | .Add, .str x, .str y => gd (lim (x.length + y.length)) (.str (x ++ y))
  | .Mod, .int i, .int j => gd (decide (0 < j)) (.int (i % j))
  | .FloorDiv, .int i, .int j => gd (decide (0 < j) && decide (j < 1073741824)) (.int (i / j))
  | .Pow, .int i, .int j => gd (decide (0 ≤ j) && decide (j ≤ 1000000) && decide (i.natAbs < 2 ^ 64)) (.int (i ^ j.toNat))
  | _, _, _ => .bad
def ordB (x y : D) : Bool := W.alike x y && (Nat.ble x.depth 64 || Nat.ble y.depth 64) && (match x with
  | .none => false
  | _ => true)
def inOk (x : D) (ys : List D) : Bool := x.plain && PyData.plainAll ys && (Nat.ble x.depth 64 || Nat.ble (PyData.depthAll ys) 64)
def seqOf : D → Option (List D)
  | .list xs => some xs
  | .tuple xs => some xs
  | _ => none
def cmpD : CmpOp → D → D → M Val
  | .Eq, x, y => gd (plain2 x y) (.bool (PyData.eqv x y))
  | .NotEq, x, y => gd (plain2 x y) (.bool (!PyData.eqv x y))
  | .Lt, x, y => gd (ordB x y) (.bool (W.dataLt x y))
  | .Gt, x, y => gd (ordB x y) (.bool (W.dataLt y x))
  | .LtE, x, y => gd (ordB x y) (.bool (!W.dataLt y x))
  | .GtE, x, y => gd (ordB x y) (.bool (!W.dataLt x y))
  | .Is, x, y => (match y with
    | .none => okd (.bool (match x with | .none => true | _ => false))
    | _ => .bad)
  | .IsNot, x, y => (match y with
    | .none => okd (.bool (match x with | .none => false | _ => true))
    | _ => .bad)
  | .In, x, y => (match seqOf y with
    | some ys => gd (inOk x ys) (.bool (ys.any fun z => PyData.eqv z x))
    | none => .bad)
  | .NotIn, x, y => (match seqOf y with
    | some ys => gd (inOk x ys) (.bool (!ys.any fun z => PyData.eqv z x))
    | none => .bad)

def negD : D → M Val
  | .int i => okd (.int (-i))
  | _ => .bad
def idxD (x : D) (i : Int) : M Val := match seqOf x with
  | some xs => (match L2.atI xs i with
    | some y => okd y
    | none => .bad)
  | none => .bad
/-- a slice's part -/
def cutD (xs : List D) (lo hi : Option Int) : List D := (xs.drop (HT.sIx xs.length 0 lo)).take (HT.sIx xs.length xs.length hi - HT.sIx xs.length 0 lo)
def slcD : D → Option Int → Option Int → M Val
  | .tuple xs, lo, hi => okd (.tuple (cutD xs lo hi))
  | .list xs, lo, hi => okd (.list (cutD xs lo hi))
  | _, _, _ => .bad
def revD : D → M Val
  | .tuple xs => okd (.tuple xs.reverse)
  | _ => .bad
def alikeB (xs : List D) : Bool := xs.all fun x => xs.all fun y => W.alike x y
def isNoneD : D → Bool
  | .none => true
  | _ => false
def isTupD : D → Bool
  | .tuple _ => true
  | _ => false
def isTup1 : D → Bool
  | .tuple (_ :: _) => true
  | _ => false
def sortOk (xs : List D) : Bool := alikeB xs && (xs.all isTup1 || xs.all fun x => !isNoneD x && !isTupD x) && Nat.ble (PyData.depthAll xs) 64 && lim xs.length
def insB (x : D) : List D → List D
  | [] => [x]
  | y :: ys => if W.dataLt y x = true then y :: insB x ys else x :: y :: ys
def sortD : List D → List D
  | [] => []
  | x :: xs => insB x (sortD xs)
def intsOf : List D → Option (List Int)
  | [] => some []
  | .int i :: r => (intsOf r).map (i :: ·)
  | _ :: _ => none
def boolsOf : List D → Option (List Bool)
  | [] => some []
  | .bool i :: r => (boolsOf r).map (i :: ·)
  | _ :: _ => none
def dedI : List Int → List Int
  | [] => []
  | x :: r => if (dedI r).contains x then dedI r else x :: dedI r
def lenD : D → M Val
  | .list xs => okd (.int xs.length)
  | .tuple xs => okd (.int xs.length)
  | .str x => gd (lim x.length) (.int x.length)
  | _ => .bad
def mmOk (x : D) (xs : List D) : Bool := alikeB (x :: xs) && !isNoneD x && Nat.ble (PyData.depthAll (x :: xs)) 64
def bltD : Bf → List D → M Val
  | .len, [x] => lenD x
  | .tuple, [x] => (match seqOf x with
    | some xs => okd (.tuple xs)
    | none => .bad)
  | .list, [x] => (match seqOf x with
    | some xs => okd (.list xs)
    | none => .bad)
  | .sorted, [.list xs] => gd (sortOk xs) (.list (sortD xs))
  | .min, [.int i, .int j] => okd (.int (if j < i then j else i))
  | .max, [.int i, .int j] => okd (.int (if i < j then j else i))
  | .min, [x] => (match seqOf x with
    | some (y :: ys) => gd (mmOk y ys) (W.minD y ys)
    | _ => .bad)
  | .max, [x] => (match seqOf x with
    | some (y :: ys) => gd (mmOk y ys) (W.maxD y ys)
    | _ => .bad)
  | .all, [.list xs] => (match boolsOf xs with
    | some bs => okd (.bool (bs.all id))
    | none => .bad)
  | .any, [.list xs] => (match boolsOf xs with
    | some bs => okd (.bool (bs.any id))
    | none => .bad)
  | .sum, [.list xs] => (match intsOf xs with
    | some ns => okd (.int ns.sum)
    | none => .bad)
  | .repr, [x] => gd (x.showable && !x.hasDict && Nat.ble x.depth 64 && lim x.shown.length) (.str x.shown)
  | .lenset, [.tuple xs] => (match intsOf xs with
    | some ns => gd (Nat.ble ns.length 60) (.int (dedI ns).length)
    | none => .bad)
  | .int, [.int i] => okd (.int i)
  | .int, [.bool b] => okd (.int (if b = true then 1 else 0))
  | .abs, [.int i] => okd (.int (if i < 0 then -i else i))
  | .divmod, [.int i, .int j] => gd (decide (0 < j) && decide (j < 1073741824)) (.tuple [.int (i / j), .int (i % j)])
  | _, _ => .bad
def isaD : Ty → D → Bool
  | .int, .int _ => true
  | .int, .bool _ => true
  | .bool, .bool _ => true
  | .str, .str _ => true
  | .tuple, .tuple _ => true
  | .list, .list _ => true
  | _, _ => false
def mthD : Mt → D → List D → M Val
  | .index, x, [y] => (match seqOf x with
    | some xs => (match xs.findIdx? fun z => PyData.eqv z y with
      | some j => gd (inOk y xs) (.int j)
      | none => .bad)
    | none => .bad)
  | .count, x, [y] => (match seqOf x with
    | some xs => gd (inOk y xs) (.int (xs.countP fun z => PyData.eqv z y))
    | none => .bad)
  | _, _, _ => .bad

def mkW : List D → M Val
  | [.int i, .int _, .int _] => if 0 ≤ i then .ok .well else .bad
  | _ => .bad
def setI (ρ : Rho) (i : Nat) (k : Int) (x : D) : M Rho := match ρ[i]? with
  | some (some (.own (.list xs))) => (match L2.ixN xs.length k with
    | some j => .ok (ρ.set i (some (.own (.list (xs.set j x)))))
    | none => .bad)
  | _ => .bad
def two : D → M (D × D)
  | .tuple [x, y] => .ok (x, y)
  | _ => .bad
def asgD : Tg → D → Rho → M Rho
  | .nm i, x, ρ => .ok (ρ.set i (some (.v (.d x))))
  | .tp is, .tuple xs, ρ => if is.length = xs.length then .ok ((is.zip xs).foldl (fun ρ p => ρ.set p.1 (some (.v (.d p.2)))) ρ) else .bad
  | _, _, _ => .bad
def wipeD (ρ : Rho) : List Nat → Rho
  | [] => ρ
  | i :: r => (wipeD ρ r).set i none
def compM (f : D → M (Option D)) : List D → M (List D)
  | [] => .ok []
  | x :: xs => (f x).bind fun o => (compM f xs).bind fun ys => .ok (match o with
    | some y => y :: ys
    | none => ys)
def rngD (a b : Int) : List D := (List.range (b - a).toNat).map fun k => .int (a + (k : Nat))
def iterD : D → M (List D)
  | .list xs => .ok xs
  | .tuple xs => .ok xs
  | _ => .bad
def pickK (vs : List Val) : List Nat → M (List Val)
  | [] => .ok []
  | k :: ks => match vs[k]? with
    | some v => (pickK vs ks).bind fun r => .ok (v :: r)
    | none => .bad
abbrev CallT := Nat → List Val → M Val

mutual
def evalE (C : CallT) : Ex → Rho → M Val
  | .var i, ρ => getV ρ i
  | .rd i, ρ => getR ρ i
  | .con x, _ => okd x
  | .tup es, ρ => (evalDs C es ρ).bind fun xs => gd (lim xs.length) (.tuple xs)
  | .lst es, ρ => (evalDs C es ρ).bind fun xs => gd (lim xs.length) (.list xs)
  | .bin o a b, ρ => ((evalE C a ρ).bind Val.asD).bind fun x => ((evalE C b ρ).bind Val.asD).bind fun y => binD o x y
  | .neg a, ρ => ((evalE C a ρ).bind Val.asD).bind negD
  | .not_ a, ρ => ((evalE C a ρ).bind asB).bind fun b => okd (.bool (!b))
  | .and_ a b, ρ => ((evalE C a ρ).bind asB).bind fun x => if x = true then ((evalE C b ρ).bind asB).bind fun y => okd (.bool y) else okd (.bool false)
  | .or_ a b, ρ => ((evalE C a ρ).bind asB).bind fun x => if x = true then okd (.bool true) else ((evalE C b ρ).bind asB).bind fun y => okd (.bool y)
  | .cmp o a b, ρ => ((evalE C a ρ).bind Val.asD).bind fun x => ((evalE C b ρ).bind Val.asD).bind fun y => cmpD o x y
  | .chain o o2 a b c, ρ => ((evalE C a ρ).bind Val.asD).bind fun x => ((evalE C b ρ).bind Val.asD).bind fun y => ((cmpD o x y).bind asB).bind fun k =>
      if k = true then ((evalE C c ρ).bind Val.asD).bind fun z => cmpD o2 y z else okd (.bool false)
  | .ite c a b, ρ => ((evalE C c ρ).bind asB).bind fun k => if k = true then evalE C a ρ else evalE C b ρ
  | .call f es ks, ρ => (evalVs C es ρ).bind fun vs => (pickK vs ks).bind fun ws => C f ws
  | .blt b es, ρ => (evalDs C es ρ).bind fun xs => bltD b xs
  | .isa a t, ρ => ((evalE C a ρ).bind Val.asD).bind fun x => okd (.bool (isaD t x))
  | .mth m a es, ρ => ((evalE C a ρ).bind Val.asD).bind fun x => (evalDs C es ρ).bind fun xs => mthD m x xs
  | .idx a i, ρ => ((evalE C a ρ).bind Val.asD).bind fun x => ((evalE C i ρ).bind asI).bind fun k => idxD x k
  | .slc a lo hi, ρ => ((evalE C a ρ).bind Val.asD).bind fun x => (evalO C lo ρ).bind fun l => (evalO C hi ρ).bind fun h => slcD x l h
  | .rev a, ρ => ((evalE C a ρ).bind Val.asD).bind revD
  | .comp elt tg it fs own, ρ => (evalI C it ρ).bind fun xs => ((compM (fun x => (asgD tg x (wipeD ρ own)).bind fun ρ2 => (evalT C fs ρ2).bind fun b =>
      if b = true then ((evalE C elt ρ2).bind Val.asD).bind fun y => .ok (some y) else .ok none) xs).quiet).bind fun ys => gd (lim xs.length) (.list ys)
  | .mkw es, ρ => (evalDs C es ρ).bind mkW
def evalDs (C : CallT) : Exs → Rho → M (List D)
  | .nil, _ => .ok []
  | .cons e es, ρ => ((evalE C e ρ).bind Val.asD).bind fun x => (evalDs C es ρ).bind fun xs => .ok (x :: xs)
def evalVs (C : CallT) : Exs → Rho → M (List Val)
  | .nil, _ => .ok []
  | .cons e es, ρ => (evalE C e ρ).bind fun x => (evalVs C es ρ).bind fun xs => .ok (x :: xs)
/-- tests, all of them -/
def evalT (C : CallT) : Exs → Rho → M Bool
  | .nil, _ => .ok true
  | .cons e es, ρ => ((evalE C e ρ).bind asB).bind fun b => if b = true then evalT C es ρ else .ok false
def evalO (C : CallT) : Exo → Rho → M (Option Int)
  | .no, _ => .ok none
  | .yes e, ρ => ((evalE C e ρ).bind asI).bind fun i => .ok (some i)
def evalI (C : CallT) : Ix → Rho → M (List D)
  | .seq e, ρ => ((evalE C e ρ).bind Val.asD).bind iterD
  | .rng a, ρ => ((evalE C a ρ).bind asI).bind fun n => if decide (-(2 ^ 62) ≤ n) && decide (n < 2 ^ 62) then .ok (rngD 0 n) else .bad
  | .rng2 a b, ρ => ((evalE C a ρ).bind asI).bind fun m => ((evalE C b ρ).bind asI).bind fun n =>
      if decide (-(2 ^ 62) ≤ m) && decide (m < 2 ^ 62) && decide (-(2 ^ 62) ≤ n) && decide (n < 2 ^ 62) then .ok (rngD m n) else .bad
end

inductive Fl where
  | nx
  | rt (v : Val)
  | bk
  | ct
mutual
inductive Sx where
  | asg (tg : Tg) (e : Ex)
  | set (i : Nat) (e : Ex)
  | own (i : Nat) (e : Ex)
  | par (i j : Nat) (a b : Ex)
  | app (i : Nat) (e : Ex)
  | seti (i : Nat) (ix : Ex) (e : Ex)
  | asg2 (i : Nat) (ix : Ex) (j : Nat) (e : Ex)
  | ifs (c : Ex) (a b : Sxs)
  | loop (tg : Tg) (it : Ix) (b : Sxs)
  | ret (e : Ex)
  | retn
  | pass
  | cont
  | raise
  | exp (e : Ex)
  | frz (is : List Nat) (s : Sx)
inductive Sxs where
  | nil
  | cons (s : Sx) (r : Sxs)
end
def frzD (ρ : Rho) : List Nat → Rho
  | [] => ρ
  | i :: r => match ρ[i]? with
    | some (some (.own x)) => frzD (ρ.set i (some (.v (.d x)))) r
    | _ => frzD ρ r
def forM (f : D → Rho → M (Rho × Fl)) : List D → Rho → M (Rho × Fl)
  | [], ρ => .ok (ρ, .nx)
  | x :: xs, ρ => (f x ρ).bind fun p => match p.2 with
    | .nx => forM f xs p.1
    | .ct => forM f xs p.1
    | .bk => .ok (p.1, .nx)
    | .rt v => .ok (p.1, .rt v)
mutual
def evalS (C : CallT) : Sx → Rho → M (Rho × Fl)
  | .asg tg e, ρ => ((evalE C e ρ).bind Val.asD).bind fun x => (asgD tg x ρ).bind fun ρ2 => .ok (ρ2, .nx)
  | .set i e, ρ => (evalE C e ρ).bind fun x => .ok (ρ.set i (some (.v x)), .nx)
  | .own i e, ρ => ((evalE C e ρ).bind Val.asD).bind fun x => .ok (ρ.set i (some (.own x)), .nx)
  | .par i j a b, ρ => (evalE C a ρ).bind fun x => (evalE C b ρ).bind fun y => .ok ((ρ.set i (some (.v x))).set j (some (.v y)), .nx)
  | .app i e, ρ => ((evalE C e ρ).bind Val.asD).bind fun x => (match ρ[i]? with
    | some (some (.own (.list xs))) => if Nat.blt xs.length 16777216 = true then .ok (ρ.set i (some (.own (.list (xs ++ [x])))), .nx) else .bad
    | _ => .bad)
  | .seti i ix e, ρ => ((evalE C e ρ).bind Val.asD).bind fun x => ((evalE C ix ρ).bind asI).bind fun k => (setI ρ i k x).bind fun ρ2 => .ok (ρ2, .nx)
  | .asg2 i ix j e, ρ => ((evalE C e ρ).bind Val.asD).bind fun x => (two x).bind fun p => ((evalE C ix ρ).bind asI).bind fun k => (setI ρ i k p.1).bind fun ρ2 => .ok (ρ2.set j (some (.v (.d p.2))), .nx)
  | .ifs c a b, ρ => ((evalE C c ρ).bind asB).bind fun k => if k = true then evalSs C a ρ else evalSs C b ρ
  | .loop tg it b, ρ => (evalI C it ρ).bind fun xs => forM (fun x ρ1 => (asgD tg x ρ1).bind fun ρ2 => evalSs C b ρ2) xs ρ
  | .ret e, ρ => (evalE C e ρ).bind fun x => .ok (ρ, .rt x)
  | .retn, ρ => .ok (ρ, .rt (.d .none))
  | .pass, ρ => .ok (ρ, .nx)
  | .cont, ρ => .ok (ρ, .ct)
  | .raise, _ => .bad
  | .exp e, ρ => (evalE C e ρ).bind fun _ => .ok (ρ, .nx)
  | .frz is s, ρ => evalS C s (frzD ρ is)
def evalSs (C : CallT) : Sxs → Rho → M (Rho × Fl)
  | .nil, ρ => .ok (ρ, .nx)
  | .cons s r, ρ => (evalS C s ρ).bind fun p => match p.2 with
    | .nx => evalSs C r p.1
    | f => .ok (p.1, f)
end

structure Fn where
  np : Nat
  ns : Nat
  body : Sxs
def rhoOf (n : Nat) (vs : List Val) : Rho := vs.map (fun v => some (.v v)) ++ List.replicate (n - vs.length) none
def endM : Rho × Fl → M Val
  | (_, .rt v) => .ok v
  | (_, .nx) => .ok (.d .none)
  | _ => .bad
inductive Den where
  | fn (f : Fn)
  | draw
  | well
abbrev Tab := Nat → Option Den
def callN (T : Tab) : Nat → CallT
  | 0, _, _ => .bad
  | n + 1, f, vs => match T f with
    | some (.fn F) => if F.np = vs.length then (evalSs (callN T n) F.body (rhoOf F.ns vs)).bind endM else .bad
    | some .draw => (match vs with
      | [.well, .d (.int k)] => .draw k fun r => okd (.int r)
      | _ => .bad)
    | some .well => (match vs with
      | [.d (.list _), .d (.int _)] => .ok .well
      | _ => .bad)
    | none => .bad
end Dv
end
section
namespace Dv
open PySem PySem.Spec PyProof.Rows L2

structure TC where
  N : List Str
  sc : Scope
  fns : List (Str × Nat × List Str)
  cons : List (Str × PyData)
  mv : List Nat
  wl : Bool

def slotOf (tc : TC) (x : Str) : Option Nat := match tc.sc.names.lookup x with
  | some .local => tc.N.idxOf? x
  | some .cell => tc.N.idxOf? x
  | some .free => tc.N.idxOf? x
  | _ => none
def isGlob (tc : TC) (x : Str) : Bool := decide (tc.sc.names.lookup x = some .globalImplicit)
def constD : Const → Option PyData
  | .none => some .none
  | .bool b => some (.bool b)
  | .int i => some (.int i)
  | .str x => some (.str x)
  | _ => none
def bfOf (x : Str) : Option Bf :=
  if x = "len" then some .len else if x = "tuple" then some .tuple else if x = "list" then some .list else if x = "sorted" then some .sorted
  else if x = "min" then some .min else if x = "max" then some .max else if x = "all" then some .all else if x = "any" then some .any
  else if x = "sum" then some .sum else if x = "repr" then some .repr else if x = "int" then some .int else if x = "abs" then some .abs else if x = "divmod" then some .divmod else none
def tyOf (x : Str) : Option Ty :=
  if x = "int" then some .int else if x = "bool" then some .bool else if x = "str" then some .str else if x = "tuple" then some .tuple else if x = "list" then some .list else none
def mtOf (x : Str) : Option Mt := if x = "index" then some .index else if x = "count" then some .count else none
def seqO {α : Type} : List (Option α) → Option (List α)
  | [] => some []
  | none :: _ => none
  | some a :: r => (seqO r).map (a :: ·)
def exsOf : List Ex → Exs
  | [] => .nil
  | e :: r => .cons e (exsOf r)
/-- the slots of a block's own names -/
def ownOf (N : List Str) (scope : Scope) : List (Str × Nat) := scope.names.filterMap fun y => match y.2 with
  | .local => (N.idxOf? y.1).map fun i => (y.1, i)
  | .cell => (N.idxOf? y.1).map fun i => (y.1, i)
  | _ => none
def tgSlots : Tg → List Nat
  | .nm i => [i]
  | .tp is => is
/-- the slot of a name of this block's own -/
def slotL (tc : TC) (x : Str) : Option Nat := if tc.sc.names.lookup x = some .free then none else slotOf tc x
def nmSlot (tc : TC) : Expr → Option Nat
  | .Name x _ => slotL tc x
  | _ => none
def trTg (tc : TC) : Expr → Option Tg
  | .Name x _ => (slotL tc x).map .nm
  | .Tuple es _ _ => (seqO (es.map (nmSlot tc))).map .tp
  | _ => none
/-- one for, some ifs -/
def oneGen : List Comprehension → Option (Expr × Expr × List Expr)
  | [⟨tg, iter, ifs, 0⟩] => some (tg, iter, ifs)
  | _ => none
/-- where each parameter's value stands among the written arguments: positional ones first, then keywords -/
def permOf (ps : List Str) (m : Nat) (ks : List Str) : Option (List Nat) :=
  if decide (m + ks.length = ps.length) && (decide ps.Nodup && (decide ks.Nodup && ks.all fun k => decide (k ∈ ps) && !decide (k ∈ ps.take m))) then seqO (ps.zipIdx.map fun p => if p.2 < m then some p.2 else (ks.idxOf? p.1).map fun j => m + j) else none
def kwNames (kws : List Keyword) : Option (List Str) := seqO (kws.map fun k => k.arg)
def andOr : BoolOp → Ex → Ex → Ex
  | .And, x, y => .and_ x y
  | .Or, x, y => .or_ x y
/-- no call without arguments -/
def plainRecv : Expr → Bool
  | .Call _ _ _ _ => false
  | _ => true
def isRev : Option Expr → Option Expr → Expr → Bool
  | none, none, .UnaryOp .USub (.Constant (.int 1) _ _) _ => true
  | _, _, _ => false
/-- len(set(a)) -/
def isLenSet (tc : TC) (f : Str) : List Expr → Option Expr
  | [.Call (.Name g _) [a] [] _] => if decide (f = "len") && (decide (g = "set") && (isGlob tc g && (tc.fns.lookup g).isNone)) then some a else none
  | _ => none
/-- isinstance(a, T) -/
def isaArg (tc : TC) : List Expr → Option (Expr × Ty)
  | [a, .Name t _] => if isGlob tc t && (tc.fns.lookup t).isNone then (tyOf t).map fun u => (a, u) else none
  | _ => none
/-- range(..) -/
def isRange (tc : TC) : Expr → Option (List Expr)
  | .Call (.Name f _) args [] _ => if decide (f = "range") && (isGlob tc f && (tc.fns.lookup f).isNone) then some args else none
  | _ => none
mutual
def trE : Nat → TC → Expr → Option Ex
  | 0, _, _ => none
  | n + 1, tc, e => match e with
    | .Name x _ => (match slotOf tc x with
      | some i => some (.var i)
      | none => if isGlob tc x then (tc.cons.lookup x).map .con else none)
    | .Constant c _ _ => (constD c).map .con
    | .Tuple es _ _ => (trL n tc es).map fun r => .tup (exsOf r)
    | .List es _ => (trL n tc es).map fun r => if tc.wl = true then .mkw (exsOf r) else .lst (exsOf r)
    | .BinOp a o b _ => (trR n tc a).bind fun x => (trR n tc b).map fun y => .bin o x y
    | .UnaryOp .USub a _ => (trE n tc a).map .neg
    | .UnaryOp .Not a _ => (trE n tc a).map .not_
    | .BoolOp o vs p => trBool n tc o vs p
    | .Compare a os bs _ => trCmp n tc a os bs
    | .IfExp c a b _ => (trE n tc c).bind fun z => (trE n tc a).bind fun x => (trE n tc b).map fun y => .ite z x y
    | .Call f args kws p => trCall n tc f args kws p
    | .Subscript a i _ => trSub n tc a i
    | .ListComp elt gs scope _ => trComp n tc elt gs scope
    | _ => none
def trBool : Nat → TC → BoolOp → List Expr → Pos → Option Ex
  | 0, _, _, _, _ => none
  | n + 1, tc, o, vs, p => match vs with
    | [] => none
    | [a] => trE n tc a
    | a :: b :: r => (trE n tc a).bind fun x => (trBool n tc o (b :: r) p).map fun y => andOr o x y
def trCmp : Nat → TC → Expr → List CmpOp → List Expr → Option Ex
  | 0, _, _, _, _ => none
  | n + 1, tc, a, os, bs => match os, bs with
    | [o], [b] => (trR n tc a).bind fun x => (trR n tc b).map fun y => .cmp o x y
    | [o, o2], [b, c] => (trR n tc a).bind fun x => (trR n tc b).bind fun y => (trR n tc c).map fun z => .chain o o2 x y z
    | _, _ => none
def trCall : Nat → TC → Expr → List Expr → List Keyword → Pos → Option Ex
  | 0, _, _, _, _, _ => none
  | n + 1, tc, f, args, kws, p => match f with
    | .Name x _ => if isGlob tc x then (match tc.fns.lookup x with
      | some (k, ps) => (trL n tc args).bind fun xs => (kwNames kws).bind fun ks => (trL n tc (kws.map fun k => k.value)).bind fun ys => (permOf ps args.length ks).map fun pm => .call k (exsOf (xs ++ ys)) pm
      | none => if kws.isEmpty then trB n tc x args else none) else none
    | .Attribute r m ap => if kws.isEmpty && (plainRecv r && (decide (ap.endLine = p.line) && (Nat.blt args.length 20 && !args.isEmpty))) then (mtOf m).bind fun t => (trR n tc r).bind fun x => (trL n tc args).map fun xs => .mth t x (exsOf xs) else none
    | _ => none
def trSub : Nat → TC → Expr → Expr → Option Ex
  | 0, _, _, _ => none
  | n + 1, tc, a, i => match i with
    | .Slice lo hi none _ => (trR n tc a).bind fun x => (trO n tc lo).bind fun l => (trO n tc hi).map fun h => .slc x l h
    | .Slice lo hi (some st) _ => if isRev lo hi st then (trR n tc a).map .rev else none
    | i => (trR n tc a).bind fun x => (trE n tc i).map fun y => .idx x y
def trComp : Nat → TC → Expr → List Comprehension → Scope → Option Ex
  | 0, _, _, _, _ => none
  | n + 1, tc, elt, gs, scope => (oneGen gs).bind fun u => if blkC tc.N tc.sc scope (ownOf tc.N scope) && Nat.ble u.2.2.length 1 then
      (trI n tc u.2.1).bind fun it => (trTg { tc with sc := relS scope tc.sc } u.1).bind fun g => (trL n { tc with sc := relS scope tc.sc } u.2.2).bind fun fs => (trE n { tc with sc := relS scope tc.sc } elt).bind fun x =>
        if (tgSlots g).all fun i => decide (i ∈ (ownOf tc.N scope).map (·.2)) then some (.comp x g it (exsOf fs) ((ownOf tc.N scope).map (·.2))) else none else none
/-- built-in functions -/
def trB : Nat → TC → Str → List Expr → Option Ex
  | 0, _, _, _ => none
  | n + 1, tc, f, args => if f = "isinstance" then (isaArg tc args).bind fun au => (trR n tc au.1).map fun x => .isa x au.2
    else (match isLenSet tc f args with
      | some a => (trR n tc a).map fun x => .blt .lenset (.cons x .nil)
      | none => (bfOf f).bind fun b => if args.isEmpty then none else (trM n tc args).map fun xs => .blt b (exsOf xs))
def trR : Nat → TC → Expr → Option Ex
  | 0, _, _ => none
  | n + 1, tc, e => match e with
    | .Name x _ => (match slotOf tc x with
      | some i => if i ∈ tc.mv then some (.rd i) else some (.var i)
      | none => trE n tc e)
    | e => trE n tc e
def trL : Nat → TC → List Expr → Option (List Ex)
  | 0, _, _ => none
  | _ + 1, _, [] => some []
  | n + 1, tc, e :: r => (trE n tc e).bind fun x => (trL n tc r).map fun y => x :: y
def trM : Nat → TC → List Expr → Option (List Ex)
  | 0, _, _ => none
  | _ + 1, _, [] => some []
  | n + 1, tc, e :: r => (trR n tc e).bind fun x => (trM n tc r).map fun y => x :: y
def trO : Nat → TC → Option Expr → Option Exo
  | 0, _, _ => none
  | _ + 1, _, none => some .no
  | n + 1, tc, some e => (trE n tc e).map .yes
def trI : Nat → TC → Expr → Option Ix
  | 0, _, _ => none
  | n + 1, tc, e => match isRange tc e with
    | some [a] => (trE n tc a).map .rng
    | some [a, b] => (trE n tc a).bind fun x => (trE n tc b).map fun y => .rng2 x y
    | some _ => none
    | none => (trR n tc e).map .seq
/-- what a for statement walks: no list that is still made -/
def trJ : Nat → TC → Expr → Option Ix
  | 0, _, _ => none
  | n + 1, tc, e => match isRange tc e with
    | some [a] => (trE n tc a).map .rng
    | some [a, b] => (trE n tc a).bind fun x => (trE n tc b).map fun y => .rng2 x y
    | some _ => none
    | none => (trE n tc e).map .seq
end

mutual
def varsE : Ex → List Nat
  | .var i => [i]
  | .rd _ => []
  | .con _ => []
  | .tup es => varsL es
  | .lst es => varsL es
  | .bin _ a b => varsE a ++ varsE b
  | .neg a => varsE a
  | .not_ a => varsE a
  | .and_ a b => varsE a ++ varsE b
  | .or_ a b => varsE a ++ varsE b
  | .cmp _ a b => varsE a ++ varsE b
  | .chain _ _ a b c => varsE a ++ varsE b ++ varsE c
  | .ite c a b => varsE c ++ varsE a ++ varsE b
  | .call _ es _ => varsL es
  | .blt _ es => varsL es
  | .isa a _ => varsE a
  | .mth _ a es => varsE a ++ varsL es
  | .idx a i => varsE a ++ varsE i
  | .slc a lo hi => varsE a ++ varsO lo ++ varsO hi
  | .rev a => varsE a
  | .comp e _ it fs _ => varsE e ++ varsI it ++ varsL fs
  | .mkw es => varsL es
def varsL : Exs → List Nat
  | .nil => []
  | .cons e es => varsE e ++ varsL es
def varsO : Exo → List Nat
  | .no => []
  | .yes e => varsE e
def varsI : Ix → List Nat
  | .seq e => varsE e
  | .rng a => varsE a
  | .rng2 a b => varsE a ++ varsE b
end
def frzOf (tc : TC) (vs : List Nat) (s : Sx) : Sx :=
  match (vs.filter fun i => i ∈ tc.mv).eraseDups with
  | [] => s
  | is => .frz is s
def isFresh : Ex → Bool
  | .lst _ => true
  | .comp _ _ _ _ _ => true
  | .blt .list _ => true
  | .blt .sorted _ => true
  | _ => false
def isLoc (tc : TC) (x : Str) : Bool := decide (tc.sc.names.lookup x = some .local)
def oneT : List Expr → Option Expr
  | [t] => some t
  | _ => none
def isComp : Expr → Bool
  | .ListComp _ _ _ _ => true
  | .SetComp _ _ _ _ => true
  | .DictComp _ _ _ _ _ => true
  | _ => false
def isTup : Expr → Bool
  | .Tuple _ _ _ => true
  | e => isComp e
def noStars : List Expr → Bool
  | [] => true
  | .Starred _ _ :: _ => false
  | _ :: r => noStars r
def localAt (tc : TC) (line : Nat) : Expr → Option Str
  | .Name x p => if isLoc tc x && decide (p.line = line) then some x else none
  | _ => none
def lineOf : List Expr → Nat
  | [] => 0
  | t :: _ => t.pos.line
/-- how a, b = x, y is stored: none: in order; some: by the names, from the right -/
def swapD (tc : TC) : Expr → Expr → Option (Option (List Str))
  | .Tuple ts _ _, .Tuple vs _ _ => if noStars vs then
      (if (decide (ts.length = 2) || decide (ts.length = 3)) && decide (vs.length = ts.length) then
        (if decide ((ts.filterMap (localAt tc (lineOf ts))).length = ts.length) && decide ((ts.filterMap (localAt tc (lineOf ts))).eraseDups.length = (ts.filterMap (localAt tc (lineOf ts))).length) then
          (if vs.all (foldedForSure 8) then some none else if vs.all (constantsAlone 8) then none else some (some (ts.filterMap (localAt tc (lineOf ts)))))
        else some none)
      else some none)
    else none
  | .Tuple _ _ _, _ => some none
  | .Name _ _, _ => some none
  | _, _ => none
def pairOf : Expr → Expr → Option ((Str × Str) × Expr × Expr)
  | .Tuple [.Name x _, .Name y _] _ _, .Tuple [a, b] _ _ => some ((x, y), a, b)
  | _, _ => none
def asgOf (tc : TC) (g : Tg) (y : Ex) : Sx := match g with
  | .nm i => if i ∈ tc.mv ∧ isFresh y = true then .own i y else .set i y
  | g => .asg g y
def appOf : Expr → Option (Str × Expr)
  | .Call (.Attribute (.Name x _) m ap) [e] [] p => if decide (m = "append") && decide (ap.endLine = p.line) then some (x, e) else none
  | _ => none
/-- x[i] -/
def subOf : Expr → Option (Str × Expr)
  | .Subscript (.Name x _) i _ => (match i with
    | .Slice _ _ _ _ => none
    | _ => some (x, i))
  | _ => none
/-- x[i], y -/
def sub2Of : Expr → Option ((Str × Expr) × Str)
  | .Tuple [t, .Name y _] _ _ => (subOf t).map fun u => (u, y)
  | _ => none
mutual
def trS : Nat → TC → Stmt → Option Sx
  | 0, _, _ => none
  | n + 1, tc, s => match s with
    | .Assign ts e _ => (oneT ts).bind fun t => (match subOf t with
     | some u => if isComp e then none else (slotL tc u.1).bind fun i => (trE n tc u.2).bind fun ix => (trE n tc e).map fun y => frzOf tc (varsE y ++ varsE ix) (.seti i ix y)
     | none => (match sub2Of t with
      | some u => if isTup e then none else (slotL tc u.1.1).bind fun i => (trE n tc u.1.2).bind fun ix => (slotL tc u.2).bind fun j => (trE n tc e).map fun y => frzOf tc (varsE y ++ varsE ix) (.asg2 i ix j y)
      | none => (swapD tc t e).bind fun r => match r with
        | none => (trTg tc t).bind fun g => (trE n tc e).map fun y => frzOf tc (varsE y) (asgOf tc g y)
        | some _ => (pairOf t e).bind fun u => (slotL tc u.1.1).bind fun i => (slotL tc u.1.2).bind fun j => (trE n tc u.2.1).bind fun a => (trE n tc u.2.2).map fun b => frzOf tc (varsE a ++ varsE b) (.par i j a b)))
    | .Expr e _ => (match appOf e with
      | some u => (slotOf tc u.1).bind fun i => (trE n tc u.2).map fun y => frzOf tc (varsE y) (.app i y)
      | none => if isComp e then none else (trE n tc e).map fun y => frzOf tc (varsE y) (.exp y))
    | .If c a b _ => (trE n tc c).bind fun x => (trSs n tc a).bind fun y => (trSs n tc b).map fun z => frzOf tc (varsE x) (.ifs x y z)
    | .For tg it b els _ => if els.isEmpty then (trJ n tc it).bind fun i => (trTg tc tg).bind fun g => (trSs n tc b).map fun y => frzOf tc (varsI i) (.loop g i y) else none
    | .Return (some e) _ => (trE n tc e).map fun y => frzOf tc (varsE y) (.ret y)
    | .Return none _ => some .retn
    | .Pass _ => some .pass
    | .Continue _ => some .cont
    | .Raise _ _ _ => some .raise
    | _ => none
def trSs : Nat → TC → List Stmt → Option Sxs
  | 0, _, _ => none
  | _ + 1, _, [] => some .nil
  | n + 1, tc, s :: r => (trS n tc s).bind fun x => (trSs n tc r).map fun y => .cons x y
end
end Dv
end
section
namespace Dv
open PySem PySem.Spec PyProof.Rows L2

/-- a tuple whose object has no dict of its own -/
def TupAt (K : PySem.W.Frag) (H : Hp) (a : Addr) (xs : List V) : Prop :=
  (∃ o : Obj, H a = some (.frz o (.tup xs)) ∧ o.dict = none) ∨
    ∃ (o : Obj) (its : Array Value) (n : Nat), K.lookup a = some o ∧ o.cls = .type "tuple" ∧ o.dict = none ∧ o.data = .seq its n ∧ its.size ≤ sizeLine ∧ Vals xs its.toList
theorem TupAt.sq {K : PySem.W.Frag} {H : Hp} {a : Addr} {xs : List V} (h : TupAt K H a xs) : SqT K H a xs := by
  rcases h with ⟨o, e, _⟩ | ⟨o, its, n, k, c, _, d, z, r⟩
  · exact .inl (.inr ⟨o, e⟩)
  · exact .inr ⟨o, its, n, k, c, d, z, r⟩
theorem TupAt.keep {K : PySem.W.Frag} {H H' : Hp} {a : Addr} {xs : List V} (h : TupAt K H a xs) (k : ∀ o, H a = some (.frz o (.tup xs)) → H' a = some (.frz o (.tup xs))) : TupAt K H' a xs := by
  rcases h with ⟨o, e, d⟩ | h
  · exact .inl ⟨o, k o e, d⟩
  · exact .inr h

/-- a list that is never changed any more: one in A, one of the module's own -/
def LstAt (A : Addr → Prop) (K : PySem.W.Frag) (H : Hp) (a : Addr) (xs : List V) : Prop :=
  (A a ∧ Rd H a (.lst xs)) ∨
    ∃ (its : Array Value) (n : Nat), K.lookup a = some { cls := .type "list", data := .seq its n } ∧ its.size ≤ sizeLine ∧ Vals xs its.toList
theorem LstAt.sq {A : Addr → Prop} {K : PySem.W.Frag} {H : Hp} {a : Addr} {xs : List V} (h : LstAt A K H a xs) : SqL K H a xs := h.elim (fun h => .inl h.2) fun ⟨its, n, k, z, r⟩ => .inr ⟨_, its, n, k, rfl, rfl, rfl, z, r⟩
/-- the object of a list as it stands -/
def Exact (K : PySem.W.Frag) (H : Hp) (a : Addr) (xs : List V) : Prop := Rd H a (.lst xs) ∨ ∃ (its : Array Value) (n : Nat), K.lookup a = some { cls := .type "list", data := .seq its n } ∧ its.size ≤ sizeLine ∧ Vals xs its.toList
theorem LstAt.ex {A : Addr → Prop} {K : PySem.W.Frag} {H : Hp} {a : Addr} {xs : List V} (h : LstAt A K H a xs) : Exact K H a xs := h.elim (fun h => .inl h.2) .inr
theorem LstAt.mk {A : Addr → Prop} {K : PySem.W.Frag} {H : Hp} {a : Addr} {xs : List V} (h : A a) (q : Rd H a (.lst xs)) : LstAt A K H a xs := .inl ⟨h, q⟩
section
variable (A : Addr → Prop) (K : PySem.W.Frag) (H : Hp)
mutual
/-- v stands for the data; its lists lie within A, where nothing is changed any more -/
inductive DA : V → PyData → Prop
  | non : DA .non .none
  | bl (b : Bool) : DA (.bl b) (.bool b)
  | int (i : Int) : DA (.int i) (.int i)
  | str (x : Str) : DA (.str x) (.str x)
  | lst {a : Addr} {xs : List V} {ds : List PyData} : LstAt A K H a xs → DAs xs ds → DA (.ref a) (.list ds)
  | tup {a : Addr} {xs : List V} {ds : List PyData} : TupAt K H a xs → DAs xs ds → DA (.ref a) (.tuple ds)
inductive DAs : List V → List PyData → Prop
  | nil : DAs [] []
  | cons {v : V} {vs : List V} {d : PyData} {ds : List PyData} : DA v d → DAs vs ds → DAs (v :: vs) (d :: ds)
end
end
section
variable {A A' : Addr → Prop} {K : PySem.W.Frag} {H H' : Hp}
theorem DAs.length : ∀ {vs : List V} {ds : List PyData}, DAs A K H vs ds → vs.length = ds.length
  | _, _, .nil => rfl
  | _, _, .cons _ t => congrArg (· + 1) t.length
mutual
theorem DA.mono (ha : ∀ a, A a → A' a) (hl : ∀ a xs, A a → Rd H a (.lst xs) → Rd H' a (.lst xs)) (ht : ∀ a xs, TupAt K H a xs → TupAt K H' a xs) : ∀ (d : PyData) (v : V), DA A K H v d → DA A' K H' v d
  | .none, _, h => by cases h; exact .non
  | .bool b, _, h => by cases h; exact .bl b
  | .int i, _, h => by cases h; exact .int i
  | .str x, _, h => by cases h; exact .str x
  | .list ds, _, h => by
    cases h with
    | lst q r => exact .lst (q.elim (fun q => .inl ⟨ha _ q.1, hl _ _ q.1 q.2⟩) .inr) (DAs.mono ha hl ht ds _ r)
  | .tuple ds, _, h => by
    cases h with
    | tup q r => exact .tup (ht _ _ q) (DAs.mono ha hl ht ds _ r)
  | .dict _, _, h => by cases h
theorem DAs.mono (ha : ∀ a, A a → A' a) (hl : ∀ a xs, A a → Rd H a (.lst xs) → Rd H' a (.lst xs)) (ht : ∀ a xs, TupAt K H a xs → TupAt K H' a xs) : ∀ (ds : List PyData) (vs : List V), DAs A K H vs ds → DAs A' K H' vs ds
  | [], _, h => by cases h; exact .nil
  | d :: ds, _, h => by
    cases h with
    | cons a b => exact .cons (DA.mono ha hl ht d _ a) (DAs.mono ha hl ht ds _ b)
end
mutual
theorem DA.dp : ∀ (d : PyData) (v : V), DA A K H v d → Dp K H v d
  | .none, _, h => by cases h; exact .non
  | .bool b, _, h => by cases h; exact .bl b
  | .int i, _, h => by cases h; exact .int i
  | .str x, _, h => by cases h; exact .str x
  | .list ds, _, h => by
    cases h with
    | lst q r => exact .lst q.sq (DAs.dp ds _ r)
  | .tuple ds, _, h => by
    cases h with
    | tup q r => exact .tup q.sq (DAs.dp ds _ r)
  | .dict _, _, h => by cases h
theorem DAs.dp : ∀ (ds : List PyData) (vs : List V), DAs A K H vs ds → DpAll K H vs ds
  | [], _, h => by cases h; exact .nil
  | d :: ds, _, h => by
    cases h with
    | cons a b => exact .cons (DA.dp d _ a) (DAs.dp ds _ b)
end
theorem DAs.get : ∀ {vs : List V} {ds : List PyData} {i : Nat} {d : PyData}, DAs A K H vs ds → ds[i]? = some d → ∃ v, vs[i]? = some v ∧ DA A K H v d
  | _, _, _, _, .nil, e => by simp at e
  | _, _, 0, _, .cons a _, e => by simp at e; subst e; exact ⟨_, rfl, a⟩
  | _, _, i + 1, d, .cons _ b, e => by
    obtain ⟨v, h1, h2⟩ := DAs.get (i := i) b (by simpa using e)
    exact ⟨v, by simpa using h1, h2⟩
theorem DAs.getV : ∀ {vs : List V} {ds : List PyData} {i : Nat} {v : V}, DAs A K H vs ds → vs[i]? = some v → ∃ d, ds[i]? = some d ∧ DA A K H v d
  | _, _, _, _, .nil, e => by simp at e
  | _, _, 0, _, .cons a _, e => by simp at e; subst e; exact ⟨_, rfl, a⟩
  | _, _, i + 1, d, .cons _ b, e => by
    obtain ⟨v, h1, h2⟩ := DAs.getV (i := i) b (by simpa using e)
    exact ⟨v, by simpa using h1, h2⟩
theorem DAs.append : ∀ {vs ws : List V} {ds es : List PyData}, DAs A K H vs ds → DAs A K H ws es → DAs A K H (vs ++ ws) (ds ++ es)
  | _, _, _, _, .nil, s => s
  | _, _, _, _, .cons a t, s => .cons a (DAs.append t s)
theorem DAs.take : ∀ {vs : List V} {ds : List PyData} (n : Nat), DAs A K H vs ds → DAs A K H (vs.take n) (ds.take n)
  | _, _, 0, _ => .nil
  | _, _, _ + 1, .nil => .nil
  | _, _, n + 1, .cons a t => .cons a (DAs.take n t)
theorem DAs.drop : ∀ {vs : List V} {ds : List PyData} (n : Nat), DAs A K H vs ds → DAs A K H (vs.drop n) (ds.drop n)
  | _, _, 0, r => r
  | _, _, _ + 1, .nil => .nil
  | _, _, n + 1, .cons _ t => DAs.drop n t
theorem DAs.rev {vs : List V} {ds : List PyData} (h : DAs A K H vs ds) : DAs A K H vs.reverse ds.reverse := by
  induction ds generalizing vs with
  | nil => cases h; exact .nil
  | cons d ds ih =>
    cases h with
    | cons a b =>
      rw [List.reverse_cons, List.reverse_cons]
      exact (ih b).append (.cons a .nil)
/-- ints, truth values -/
theorem DAs.ints : ∀ {ds : List PyData} {vs : List V} {ns : List Int}, DAs A K H vs ds → intsOf ds = some ns → vs = ns.map V.int
  | [], _, _, h, e => by cases h; cases e; rfl
  | d :: ds, _, ns, h, e => by
    cases h with
    | cons a b =>
      cases d with
      | int i =>
        unfold intsOf at e
        cases q : intsOf ds with
        | none => rw [q] at e; cases e
        | some ms =>
          rw [q] at e
          cases e
          cases a
          rw [DAs.ints b q]
          rfl
      | _ => cases e
theorem DAs.bools : ∀ {ds : List PyData} {vs : List V} {ns : List Bool}, DAs A K H vs ds → boolsOf ds = some ns → vs = ns.map V.bl
  | [], _, _, h, e => by cases h; cases e; rfl
  | d :: ds, _, ns, h, e => by
    cases h with
    | cons a b =>
      cases d with
      | bool i =>
        unfold boolsOf at e
        cases q : boolsOf ds with
        | none => rw [q] at e; cases e
        | some ms =>
          rw [q] at e
          cases e
          cases a
          rw [DAs.bools b q]
          rfl
      | _ => cases e
end

/-- the well of a lap: a list of three numbers, the first one not below 0 -/
def WellO (a : Addr) : HO := .ext fun h => ∃ (i j k : Int) (t u v : Tok) (n : Nat), 0 ≤ i ∧ h.get? a = some ({ cls := .type "list", data := .seq #[.int i t, .int j u, .int k v] n } : Obj)
/-- A: the lists that are never changed any more -/
def AOk (A : Addr → Prop) (H : Hp) : Prop := ∀ a, A a → ∃ o, H a = some o
structure Grow (A : Addr → Prop) (H : Hp) (A' : Addr → Prop) (H' : Hp) : Prop where
  same : Same H H'
  sub : ∀ a, A a → A' a
  new : ∀ a, A' a → A a ∨ H a = none
  ok : AOk A' H'
section
variable {A A' A2 : Addr → Prop} {K : PySem.W.Frag} {H H' H2 : Hp}
theorem Grow.refl (h : AOk A H) : Grow A H A H := ⟨Same.refl H, fun _ h => h, fun _ h => .inl h, h⟩
theorem Grow.trans (a : Grow A H A' H') (b : Grow A' H' A2 H2) : Grow A H A2 H2 :=
  ⟨a.same.trans b.same, fun x h => b.sub x (a.sub x h), fun x h => by
    rcases b.new x h with h | h
    · exact a.new x h
    · exact .inr (a.same.free h), b.ok⟩
theorem Grow.upd (h : AOk A H) {p : Addr} {o : HO} (hp : H p = none) : Grow A H A (upd H p o) :=
  ⟨fun b u e => by rw [upd_ne (ne_of_none e hp)]; exact e, fun _ h => h, fun _ h => .inl h, fun a ha => by
    obtain ⟨u, e⟩ := h a ha
    exact ⟨u, by rw [upd_ne (ne_of_none e hp)]; exact e⟩⟩
theorem Grow.updA (h : AOk A H) {p : Addr} {o : HO} (hp : H p = none) : Grow A H (fun b => A b ∨ b = p) (L2.upd H p o) :=
  ⟨fun b u e => by rw [upd_ne (ne_of_none e hp)]; exact e, fun _ h => .inl h, fun b h => by
    rcases h with h | rfl
    · exact .inl h
    · exact .inr hp, fun a ha => by
    rcases ha with ha | rfl
    · obtain ⟨u, e⟩ := h a ha
      exact ⟨u, by rw [upd_ne (ne_of_none e hp)]; exact e⟩
    · exact ⟨_, upd_same⟩⟩
theorem Rd.same {a : Addr} {u : HO} (e : Same H H') (h : Rd H a u) : Rd H' a u := by
  rcases h with h | ⟨o, h⟩
  · exact .inl (e _ _ h)
  · exact .inr ⟨o, e _ _ h⟩
theorem DA.grow (g : Grow A H A' H') {d : PyData} {v : V} (h : DA A K H v d) : DA A' K H' v d :=
  DA.mono g.sub (fun _ _ _ q => Rd.same g.same q) (fun _ _ q => q.keep fun _ e => g.same _ _ e) d v h
theorem DAs.grow (g : Grow A H A' H') {d : List PyData} {v : List V} (h : DAs A K H v d) : DAs A' K H' v d :=
  DAs.mono g.sub (fun _ _ _ q => Rd.same g.same q) (fun _ _ q => q.keep fun _ e => g.same _ _ e) d v h

/-- what stands for a value -/
def Rep (A : Addr → Prop) (K : PySem.W.Frag) (H : Hp) (v : V) : Val → Prop
  | .d x => DA A K H v x
  | .well => ∃ a, v = .ref a ∧ H a = some (WellO a)
  | .exc _ _ => False
  | .clo _ _ => False
theorem Rep.grow (g : Grow A H A' H') {v : V} : ∀ {x : Val}, Rep A K H v x → Rep A' K H' v x
  | .d x, h => DA.grow g h
  | .well, ⟨a, e, h⟩ => ⟨a, e, g.same _ _ h⟩
  | .exc _ _, h => h
  | .clo _ _, h => h
def Reps (A : Addr → Prop) (K : PySem.W.Frag) (H : Hp) : List V → List Val → Prop
  | [], [] => True
  | v :: vs, x :: xs => Rep A K H v x ∧ Reps A K H vs xs
  | _, _ => False
theorem Reps.grow (g : Grow A H A' H') : ∀ {vs : List V} {xs : List Val}, Reps A K H vs xs → Reps A' K H' vs xs
  | [], [], _ => True.intro
  | v :: vs, x :: xs, h => ⟨h.1.grow g, Reps.grow g h.2⟩
  | [], _ :: _, h => h
  | _ :: _, [], h => h
theorem Reps.length : ∀ {vs : List V} {xs : List Val}, Reps A K H vs xs → vs.length = xs.length
  | [], [], _ => rfl
  | v :: vs, x :: xs, h => congrArg (· + 1) (Reps.length h.2)
  | [], _ :: _, h => h.elim
  | _ :: _, [], h => h.elim
theorem Reps.get : ∀ {vs : List V} {xs : List Val} {i : Nat} {x : Val}, Reps A K H vs xs → xs[i]? = some x → ∃ v, vs[i]? = some v ∧ Rep A K H v x
  | [], [], _, _, _, e => by simp at e
  | v :: vs, y :: xs, 0, _, h, e => by simp at e; subst e; exact ⟨_, rfl, h.1⟩
  | v :: vs, y :: xs, i + 1, x, h, e => by
    obtain ⟨u, h1, h2⟩ := Reps.get (i := i) h.2 (by simpa using e)
    exact ⟨u, by simpa using h1, h2⟩
  | [], _ :: _, _, _, h, _ => h.elim
  | _ :: _, [], _, _, h, _ => h.elim
/-- .. read only: a list that is still being made, too -/
def Rep0 (A : Addr → Prop) (K : PySem.W.Frag) (H : Hp) (v : V) (x : PyData) : Prop :=
  DA A K H v x ∨ ∃ a xs ds, v = .ref a ∧ x = .list ds ∧ H a = some (.lst xs) ∧ DAs A K H xs ds
theorem Rep0.grow (g : Grow A H A' H') {v : V} {x : PyData} (h : Rep0 A K H v x) : Rep0 A' K H' v x := by
  rcases h with h | ⟨a, xs, ds, e1, e2, e3, e4⟩
  · exact .inl (h.grow g)
  · exact .inr ⟨a, xs, ds, e1, e2, g.same _ _ e3, e4.grow g⟩
theorem Rep0.dp {v : V} {x : PyData} (h : Rep0 A K H v x) : Dp K H v x := by
  rcases h with h | ⟨a, xs, ds, rfl, rfl, e3, e4⟩
  · exact DA.dp _ _ h
  · exact .lst (.inl (.inl e3)) (DAs.dp _ _ e4)
theorem Rep0.listX {v : V} {ds : List PyData} (h : Rep0 A K H v (.list ds)) : ∃ a xs, v = .ref a ∧ Exact K H a xs ∧ DAs A K H xs ds := by
  rcases h with h | ⟨a, xs, ds', rfl, e2, e3, e4⟩
  · cases h with
    | lst q r => exact ⟨_, _, rfl, q.ex, r⟩
  · cases e2
    exact ⟨a, xs, rfl, .inl (.inl e3), e4⟩
theorem Rep0.list {v : V} {ds : List PyData} (h : Rep0 A K H v (.list ds)) : ∃ a xs, v = .ref a ∧ SqL K H a xs ∧ DAs A K H xs ds := by
  rcases h with h | ⟨a, xs, ds', rfl, e2, e3, e4⟩
  · cases h with
    | lst q r => exact ⟨_, _, rfl, q.sq, r⟩
  · cases e2
    exact ⟨a, xs, rfl, .inl (.inl e3), e4⟩
theorem Rep0.tuple {v : V} {ds : List PyData} (h : Rep0 A K H v (.tuple ds)) : ∃ a xs, v = .ref a ∧ TupAt K H a xs ∧ DAs A K H xs ds := by
  rcases h with h | ⟨a, xs, ds', rfl, e2, e3, e4⟩
  · cases h with
    | tup q r => exact ⟨_, _, rfl, q, r⟩
  · cases e2
theorem Rep0.seq {v : V} {x : PyData} {ds : List PyData} (h : Rep0 A K H v x) (e : seqOf x = some ds) : ∃ a xs, v = .ref a ∧ (SqL K H a xs ∨ SqT K H a xs) ∧ DAs A K H xs ds := by
  cases x with
  | list ys =>
    cases e
    obtain ⟨a, xs, e1, q, r⟩ := h.list
    exact ⟨a, xs, e1, .inl q, r⟩
  | tuple ys =>
    cases e
    obtain ⟨a, xs, e1, q, r⟩ := h.tuple
    exact ⟨a, xs, e1, .inr q.sq, r⟩
  | _ => cases e
theorem Rep0.int {v : V} {i : Int} (h : Rep0 A K H v (.int i)) : v = .int i := by
  rcases h with h | ⟨_, _, _, _, e, _⟩
  · cases h; rfl
  · cases e
theorem Rep0.bool {v : V} {i : Bool} (h : Rep0 A K H v (.bool i)) : v = .bl i := by
  rcases h with h | ⟨_, _, _, _, e, _⟩
  · cases h; rfl
  · cases e
theorem Rep0.str {v : V} {i : Str} (h : Rep0 A K H v (.str i)) : v = .str i := by
  rcases h with h | ⟨_, _, _, _, e, _⟩
  · cases h; rfl
  · cases e
theorem Rep0.none_iff {v : V} {x : PyData} (h : Rep0 A K H v x) : decide (v = .non) = isNoneD x := by
  rcases h with h | ⟨_, _, _, rfl, rfl, _⟩
  · cases h <;> first | rfl | exact decide_eq_false (fun e => by cases e)
  · exact decide_eq_false (fun e => by cases e)
end

/-- of a frame: the written part, the heap at its entry, what is wanted of an exception (at the slots, the lists, the heap) -/
structure EC where
  K : PySem.W.Frag
  H0 : Hp
  X : L2.St → (Addr → Prop) → Hp → Nat → List D → Prop
def SlotR (C : EC) (A : Addr → Prop) (H : Hp) (v : V) : Slot → Prop
  | .v x => Rep A C.K H v x
  | .own x => ∃ a xs ds, v = .ref a ∧ x = .list ds ∧ H a = some (.lst xs) ∧ DAs A C.K H xs ds ∧ ¬ A a ∧ C.H0 a = none
structure EnvR (C : EC) (A : Addr → Prop) (H : Hp) (σ : L2.St) (ρ : Rho) : Prop where
  aok : AOk A H
  len : σ.length = ρ.length
  at_ : ∀ (i : Nat) (s : Slot), ρ[i]? = some (some s) → ∃ v, σ[i]? = some (some v) ∧ SlotR C A H v s
  apart : ∀ (i j : Nat) (x y : D) (a : Addr), i ≠ j → ρ[i]? = some (some (.own x)) → ρ[j]? = some (some (.own y)) → σ[i]? = some (some (.ref a)) → σ[j]? ≠ some (some (.ref a))
section
variable {C : EC} {A A' : Addr → Prop} {H H' : Hp} {σ : L2.St} {ρ : Rho}
theorem SlotR.grow (g : Grow A H A' H') {v : V} : ∀ {s : Slot}, SlotR C A H v s → SlotR C A' H' v s
  | .v x, h => Rep.grow g h
  | .own x, ⟨a, xs, ds, e1, e2, e3, e4, n, z⟩ => ⟨a, xs, ds, e1, e2, g.same _ _ e3, e4.grow g, (fun q => by
      rcases g.new a q with q | q
      · exact n q
      · rw [e3] at q; cases q), z⟩
theorem EnvR.grow (g : Grow A H A' H') (h : EnvR C A H σ ρ) : EnvR C A' H' σ ρ :=
  ⟨g.ok, h.len, fun i s e => by
    obtain ⟨v, e1, r⟩ := h.at_ i s e
    exact ⟨v, e1, r.grow g⟩, h.apart⟩
def xE (C : EC) (σ : L2.St) (A : Addr → Prop) (H : Hp) (c : Nat) (xs : List D) : Prop := ∀ A' H', Grow A H A' H' → C.X σ A' H' c xs
theorem xE.grow (g : Grow A H A' H') {c : Nat} {xs : List D} (h : xE C σ A H c xs) : xE C σ A' H' c xs := fun A2 H2 g2 => h A2 H2 (g.trans g2)

/-- readings -/
def tD (C : EC) (m : Rho → M Val) : TE := fun σ H Q => ∃ A ρ, EnvR C A H σ ρ ∧ (m ρ).Sat (fun d => ∀ A' v H', Grow A H A' H' → Rep A' C.K H' v d → Q v H') (xE C σ A H)
def tR (C : EC) (m : Rho → M D) : TE := fun σ H Q => ∃ A ρ, EnvR C A H σ ρ ∧ (m ρ).Sat (fun d => ∀ A' v H', Grow A H A' H' → Rep0 A' C.K H' v d → Q v H') (xE C σ A H)
def tT (C : EC) (m : Rho → M Bool) : TT := fun σ H Q => ∃ A ρ, EnvR C A H σ ρ ∧ (m ρ).Sat (fun b => ∀ A' H', Grow A H A' H' → Q b H') (xE C σ A H)
def tAs (C : EC) (m : Rho → M (List D)) : TA := fun σ H Q => ∃ A ρ, EnvR C A H σ ρ ∧ (m ρ).Sat (fun ds => ∀ A' vs H', Grow A H A' H' → DAs A' C.K H' vs ds → Q vs H') (xE C σ A H)
def tA0 (C : EC) (m : Rho → M (List D)) : TA := fun σ H Q => ∃ A ρ, EnvR C A H σ ρ ∧ (m ρ).Sat (fun ds => ∀ A' vs H', Grow A H A' H' → Paired (Rep0 A' C.K H') vs ds → Q vs H') (xE C σ A H)
def tVs (C : EC) (m : Rho → M (List Val)) : TA := fun σ H Q => ∃ A ρ, EnvR C A H σ ρ ∧ (m ρ).Sat (fun ds => ∀ A' vs H', Grow A H A' H' → Reps A' C.K H' vs ds → Q vs H') (xE C σ A H)
end
end Dv
end
section
namespace Dv
open PySem PySem.Spec PyProof.Rows L2

theorem gd_sat {b : Bool} {x : D} {Q : Val → Prop} {E : Nat → List D → Prop} (h : (gd b x).Sat Q E) : b = true ∧ Q (.d x) := by
  unfold gd at h
  split at h
  · exact ⟨by assumption, h⟩
  · exact h.elim
theorem ba {a b : Bool} (h : (a && b) = true) : a = true ∧ b = true := Bool.and_eq_true_iff.mp h
theorem lim_le {n : Nat} (h : lim n = true) : n ≤ sizeLine := by
  rw [sizeLine_eq]
  exact Nat.le_of_ble_eq_true h
theorem line_lim {n : Nat} (h : n ≤ sizeLine) : lim n = true := by
  rw [sizeLine_eq] at h
  exact Nat.ble_eq_true_of_le h

section
variable {X : Cx} {C : EC} {pins : List (Addr × Obj)} {s : Shared} {σ : L2.St} {H : Hp}

theorem Rep0.reads {A : Addr → Prop} {v : V} {u : Value} {d : PyData} (I : Inv X pins σ H s) (h : Rep0 A X.K H v d) (r : RelV v u) : ∃ as, Reads s.heap u d as := Dp.reads I d v u h.dp r
theorem DAs.reads {A : Addr → Prop} {vs : List V} {us : List Value} {ds : List PyData} (I : Inv X pins σ H s) (h : DAs A X.K H vs ds) (r : Vals vs us) : ∃ as, ReadsAll s.heap us ds as := Dp.readsAll I ds vs us (DAs.dp ds vs h) r

/-- the data's wish, at the lists A and the heap H -/
def Wd (K : PySem.W.Frag) (A : Addr → Prop) (H : Hp) (Q : VK) : Val → Prop := fun d => ∀ A' v H', Grow A H A' H' → Rep A' K H' v d → Q v H'
def rD2 (K : PySem.W.Frag) (op : D → D → M Val) : R2 := fun x y H Q => ∃ A dx dy E, AOk A H ∧ Rep0 A K H x dx ∧ Rep0 A K H y dy ∧ (op dx dy).Sat (Wd K A H Q) E
def rD1 (K : PySem.W.Frag) (op : D → M Val) : V → Hp → VK → Prop := fun x H Q => ∃ A dx E, AOk A H ∧ Rep0 A K H x dx ∧ (op dx).Sat (Wd K A H Q) E
theorem wd_int {K : PySem.W.Frag} {A : Addr → Prop} {Q : VK} {i : Int} (ha : AOk A H) (q : Wd K A H Q (.d (.int i))) : Q (.int i) H := q A _ H (Grow.refl ha) (DA.int i)
theorem wd_bool {K : PySem.W.Frag} {A : Addr → Prop} {Q : VK} {i : Bool} (ha : AOk A H) (q : Wd K A H Q (.d (.bool i))) : Q (.bl i) H := q A _ H (Grow.refl ha) (DA.bl i)
theorem wd_str {K : PySem.W.Frag} {A : Addr → Prop} {Q : VK} {i : Str} (ha : AOk A H) (q : Wd K A H Q (.d (.str i))) : Q (.str i) H := q A _ H (Grow.refl ha) (DA.str i)
theorem wd_lst {K : PySem.W.Frag} {A : Addr → Prop} {Q : VK} {ds : List PyData} {xs : List V} {p : Addr} (ha : AOk A H) (q : Wd K A H Q (.d (.list ds))) (hp : H p = none) (h : DAs A K H xs ds) : Q (.ref p) (upd H p (.lst xs)) :=
  q _ _ _ (Grow.updA (o := .lst xs) ha hp) (DA.lst (.mk (.inr rfl) (.inl upd_same)) (h.grow (Grow.updA ha hp)))
theorem wd_tup {K : PySem.W.Frag} {A : Addr → Prop} {Q : VK} {ds : List PyData} {xs : List V} {p : Addr} {o : Obj} (ha : AOk A H) (q : Wd K A H Q (.d (.tuple ds))) (hp : H p = none) (hd : o.dict = none) (h : DAs A K H xs ds) :
    Q (.ref p) (upd H p (.frz o (.tup xs))) :=
  q _ _ _ (Grow.upd (o := .frz o (.tup xs)) ha hp) (DA.tup (.inl ⟨o, upd_same, hd⟩) (h.grow (Grow.upd ha hp)))
theorem wd_tupOld {K : PySem.W.Frag} {A : Addr → Prop} {Q : VK} {ds : List PyData} {xs : List V} {p : Addr} (ha : AOk A H) (q : Wd K A H Q (.d (.tuple ds))) (t : TupAt K H p xs) (h : DAs A K H xs ds) : Q (.ref p) H :=
  q A _ H (Grow.refl ha) (DA.tup t h)
theorem wd_da {K : PySem.W.Frag} {A : Addr → Prop} {Q : VK} {d : PyData} {v : V} (ha : AOk A H) (q : Wd K A H Q (.d d)) (h : DA A K H v d) : Q v H := q A _ H (Grow.refl ha) h

/-- a new tuple -/
theorem tupNew {h' : Heap} {tk : Nat} {o : Obj} {its : List Value} {xs : List V} {n : Nat} {p : Addr} (I : Inv X pins σ H s) (k : ∀ b u, s.heap.get? b = some u → h'.get? b = some u) (hp : s.heap.objs.size ≤ p) (e : h'.get? p = some o)
    (hc : o.cls = .type "tuple") (hd : o.data = .seq its.toArray n) (r : Vals xs its) (hz : xs.length ≤ sizeLine) : Inv X pins σ (upd H p (.frz o (.tup xs))) { s with heap := h', toks := tk } :=
  I.laid k hp ⟨e, hz, its, r, o, e, hc, n, hd⟩

theorem exact_at {a : Addr} {xs : List V} (I : Inv X pins σ H s) (h : Exact X.K H a xs) : ∃ (its : List Value) (n : Nat), Vals xs its ∧ s.heap.get? a = some { cls := .type "list", data := .seq its.toArray n } := by
  rcases h with h | ⟨its, n, k, z, r⟩
  · obtain ⟨_, its, n, r, p⟩ := h.ok I.hok
    exact ⟨its, n, r, p⟩
  · exact ⟨its.toList, n, r, by simpa using I.kIn _ _ k⟩
theorem op_addD : OpR X (binaryOp .Add) (rD2 X.K (binD .Add)) := by
  intro pins s σ H x y v u Q I rx ry h
  obtain ⟨A, dx, dy, E, ha, hx, hy, h⟩ := h
  match dx, dy, hx, hy, h with
  | .int i, .int j, hx, hy, h =>
    exact op_add pins s σ H x y v u Q I rx ry ⟨i, j, hx.int, hy.int, wd_int ha h⟩
  | .str i, .str j, hx, hy, h =>
    obtain ⟨hl, q⟩ := gd_sat h
    exact op_add_str pins s σ H x y v u Q I rx ry ⟨i, j, hx.str, hy.str, lim_le hl, wd_str ha q⟩
  | .list ds, .list es, hx, hy, h =>
    obtain ⟨hl, q⟩ := gd_sat h
    obtain ⟨a, xs, rfl, qa, ra⟩ := hx.listX
    obtain ⟨b, ys, rfl, qb, rb⟩ := hy.listX
    obtain ⟨its, n, r1, p1⟩ := exact_at I qa
    obtain ⟨its2, n2, r2, p2⟩ := exact_at I qb
    cases rx
    cases ry
    have hz : (its ++ its2).length ≤ sizeLine := by
      rw [List.length_append, ← r1.length, ← r2.length, ra.length, rb.length]
      exact lim_le hl
    have hf := I.hok.fresh (Nat.le_refl s.heap.objs.size)
    refine PySem.P.add_list p1 p2 ?_ (by rw [List.size_toArray, List.size_toArray, ← List.length_append]; exact hz)
    rw [List.append_toArray]
    refine ⟨.ref s.heap.objs.size, _, I.laid (t' := s.toks) (o := .lst (xs ++ ys)) (fun b ob q => Heap.get?_push_of_some _ q) (Nat.le_refl _) ?_, rfl, wd_lst ha q hf (ra.append rb)⟩
    exact ⟨by rw [(r1.append r2).length]; exact hz, _, _, r1.append r2, Heap.get?_push_size _ rfl⟩
  | .tuple ds, .tuple es, hx, hy, h =>
    obtain ⟨hl, q⟩ := gd_sat h
    obtain ⟨a, xs, rfl, qa, ra⟩ := hx.tuple
    obtain ⟨b, ys, rfl, qb, rb⟩ := hy.tuple
    obtain ⟨its, r1, p1, _⟩ := I.tuple qa.sq
    obtain ⟨its2, r2, p2, _⟩ := I.tuple qb.sq
    cases rx
    cases ry
    cases ra with
    | nil =>
      cases r1
      exact cat_tup0 p1 p2 ⟨.ref b, H, I, rfl, wd_tupOld ha q qb rb⟩
    | cons c d =>
      refine HT.cat_tup p1 p2 (fun z => ?_) (fun z => ?_) (fun z => ?_) ?_
      · rw [z] at r1; cases r1
      · rw [z] at r2
        cases r2
        cases rb
        rw [List.append_nil] at q
        exact ⟨.ref a, H, I, rfl, wd_tupOld ha q qa (.cons c d)⟩
      · have hf := I.hok.fresh (Nat.le_refl s.heap.objs.size)
        refine ⟨.ref s.heap.objs.size, _, tupNew I (tk := s.toks) (fun b ob q => Heap.get?_push_of_some _ q) (Nat.le_refl _) (Heap.get?_push_size _ rfl) rfl rfl (r1.append r2) ?_, rfl, wd_tup ha q hf (by rfl) ((DAs.cons c d).append rb)⟩
        rw [List.length_append, (DAs.cons c d).length, rb.length]
        exact lim_le hl
      · rw [← r1.length, ← r2.length, (DAs.cons c d).length, rb.length]
        exact lim_le hl
  | .none, _, _, _, h => exact h.elim
  | .bool _, _, _, _, h => exact h.elim
  | .dict _, _, _, _, h => exact h.elim
  | .int _, .none, _, _, h => exact h.elim
  | .int _, .bool _, _, _, h => exact h.elim
  | .int _, .str _, _, _, h => exact h.elim
  | .int _, .list _, _, _, h => exact h.elim
  | .int _, .tuple _, _, _, h => exact h.elim
  | .int _, .dict _, _, _, h => exact h.elim
  | .str _, .none, _, _, h => exact h.elim
  | .str _, .bool _, _, _, h => exact h.elim
  | .str _, .int _, _, _, h => exact h.elim
  | .str _, .list _, _, _, h => exact h.elim
  | .str _, .tuple _, _, _, h => exact h.elim
  | .str _, .dict _, _, _, h => exact h.elim
  | .list _, .none, _, _, h => exact h.elim
  | .list _, .bool _, _, _, h => exact h.elim
  | .list _, .int _, _, _, h => exact h.elim
  | .list _, .str _, _, _, h => exact h.elim
  | .list _, .tuple _, _, _, h => exact h.elim
  | .list _, .dict _, _, _, h => exact h.elim
  | .tuple _, .none, _, _, h => exact h.elim
  | .tuple _, .bool _, _, _, h => exact h.elim
  | .tuple _, .int _, _, _, h => exact h.elim
  | .tuple _, .str _, _, _, h => exact h.elim
  | .tuple _, .list _, _, _, h => exact h.elim
  | .tuple _, .dict _, _, _, h => exact h.elim
end
end Dv
end
section
namespace Dv
open PySem PySem.Spec PyProof.Rows L2
section
variable {X : Cx} {C : EC} {pins : List (Addr × Obj)} {s : Shared} {σ : L2.St} {H : Hp}

theorem op_ints {o : Operator} {f : Int → Int → Bool} {g : Int → Int → Int} (hb : ∀ dx dy, binD o dx dy = match dx, dy with
      | .int i, .int j => gd (f i j) (.int (g i j))
      | _, _ => .bad) {Cd : Int → Int → Prop} (ho : OpR X (binaryOp o) (rI Cd fun i j => .int (g i j))) (hf : ∀ i j, f i j = true → Cd i j) : OpR X (binaryOp o) (rD2 X.K (binD o)) := by
  intro pins s σ H x y v u Q I rx ry h
  obtain ⟨A, dx, dy, E, ha, hx, hy, h⟩ := h
  rw [hb] at h
  split at h
  · obtain ⟨hl, q⟩ := gd_sat h
    exact ho pins s σ H x y v u Q I rx ry ⟨_, _, hx.int, hy.int, hf _ _ hl, wd_int ha q⟩
  · exact h.elim
theorem okd_gd (x : D) : okd x = gd true x := rfl
theorem small_iff {i j : Int} (h : (small64 i || small64 j) = true) : CMul i j := by
  unfold small64 at h
  simp only [Bool.or_eq_true, Bool.and_eq_true, decide_eq_true_eq] at h
  exact h
theorem op_binD : ∀ o : Operator, OpR X (binaryOp o) (rD2 X.K (binD o))
  | .Add => op_addD
  | .Sub => op_ints (f := fun _ _ => true) (g := fun i j => i - j) (fun dx dy => by cases dx <;> first | rfl | (cases dy <;> rfl)) (Cd := fun _ _ => True) (fun pins s σ H x y v u Q I rx ry ⟨i, j, e1, e2, _, q⟩ => op_sub pins s σ H x y v u Q I rx ry ⟨i, j, e1, e2, q⟩) (fun _ _ _ => trivial)
  | .Mult => op_ints (f := fun i j => small64 i || small64 j) (g := fun i j => i * j) (fun dx dy => by cases dx <;> first | rfl | (cases dy <;> rfl)) op_mul (fun _ _ h => small_iff h)
  | .Mod => op_ints (f := fun _ j => decide (0 < j)) (g := fun i j => i % j) (fun dx dy => by cases dx <;> first | rfl | (cases dy <;> rfl)) op_mod (fun _ _ h => of_decide_eq_true h)
  | .FloorDiv => op_ints (f := fun _ j => decide (0 < j) && decide (j < 1073741824)) (g := fun i j => i / j) (fun dx dy => by cases dx <;> first | rfl | (cases dy <;> rfl)) op_fdiv (fun _ _ h => ⟨of_decide_eq_true (ba h).1, of_decide_eq_true (ba h).2⟩)
  | .Pow => op_ints (f := fun i j => decide (0 ≤ j) && decide (j ≤ 1000000) && decide (i.natAbs < 2 ^ 64)) (g := fun i j => i ^ j.toNat) (fun dx dy => by cases dx <;> first | rfl | (cases dy <;> rfl)) op_pow
      (fun _ _ h => ⟨of_decide_eq_true (ba (ba h).1).1, of_decide_eq_true (ba (ba h).1).2, of_decide_eq_true (ba h).2⟩)
  | .MatMult => fun _ _ _ _ _ _ _ _ _ _ _ _ ⟨_, _, _, _, _, _, _, h⟩ => h.elim
  | .Div => fun _ _ _ _ _ _ _ _ _ _ _ _ ⟨_, _, _, _, _, _, _, h⟩ => h.elim
  | .LShift => fun _ _ _ _ _ _ _ _ _ _ _ _ ⟨_, _, _, _, _, _, _, h⟩ => h.elim
  | .RShift => fun _ _ _ _ _ _ _ _ _ _ _ _ ⟨_, _, _, _, _, _, _, h⟩ => h.elim
  | .BitOr => fun _ _ _ _ _ _ _ _ _ _ _ _ ⟨_, _, _, _, _, _, _, h⟩ => h.elim
  | .BitXor => fun _ _ _ _ _ _ _ _ _ _ _ _ ⟨_, _, _, _, _, _, _, h⟩ => h.elim
  | .BitAnd => fun _ _ _ _ _ _ _ _ _ _ _ _ ⟨_, _, _, _, _, _, _, h⟩ => h.elim

theorem min_room {a b : Nat} {U : Nat} (hu : U + 100 < cLine) (h : (Nat.ble a 64 || Nat.ble b 64) = true) : U + min a b < cLine := by
  rcases Bool.or_eq_true_iff.mp h with h | h
  · have := Nat.le_of_ble_eq_true h
    omega
  · have := Nat.le_of_ble_eq_true h
    omega
theorem op_eqD' (hu : X.A.units + 100 < cLine) : OpR X (compareOp .Eq) (rD2 X.K (cmpD .Eq)) := by
  intro pins s σ H x y v u Q I rx ry h
  obtain ⟨A, dx, dy, E, ha, hx, hy, h⟩ := h
  obtain ⟨hl, q⟩ := gd_sat h
  obtain ⟨h1, h2⟩ := ba hl
  obtain ⟨as, r1⟩ := hx.reads I rx
  obtain ⟨bs, r2⟩ := hy.reads I ry
  exact SeqAt.eq_plain r1 r2 (ba h1).1 (ba h1).2 (min_room hu h2) ⟨.bl _, H, I, rfl, wd_bool ha q⟩
theorem op_neD' (hu : X.A.units + 100 < cLine) : OpR X (compareOp .NotEq) (rD2 X.K (cmpD .NotEq)) := by
  intro pins s σ H x y v u Q I rx ry h
  obtain ⟨A, dx, dy, E, ha, hx, hy, h⟩ := h
  obtain ⟨hl, q⟩ := gd_sat h
  obtain ⟨h1, h2⟩ := ba hl
  obtain ⟨as, r1⟩ := hx.reads I rx
  obtain ⟨bs, r2⟩ := hy.reads I ry
  exact SeqAt.ne_plain r1 r2 (ba h1).1 (ba h1).2 (min_room hu h2) ⟨.bl _, H, I, rfl, wd_bool ha q⟩
theorem ord_ok {dx dy : D} (h : ordB dx dy = true) : W.alike dx dy = true ∧ (Nat.ble dx.depth 64 || Nat.ble dy.depth 64) = true ∧ dx ≠ .none := by
  unfold ordB at h
  obtain ⟨h1, h3⟩ := ba h
  obtain ⟨h1, h2⟩ := ba h1
  refine ⟨h1, h2, fun e => ?_⟩
  subst e
  cases h3
theorem op_ltD (hu : X.A.units + 100 < cLine) : OpR X (compareOp .Lt) (rD2 X.K (cmpD .Lt)) := by
  intro pins s σ H x y v u Q I rx ry h
  obtain ⟨A, dx, dy, E, ha, hx, hy, h⟩ := h
  obtain ⟨hl, q⟩ := gd_sat h
  obtain ⟨h1, h2, h3⟩ := ord_ok hl
  obtain ⟨as, r1⟩ := hx.reads I rx
  obtain ⟨bs, r2⟩ := hy.reads I ry
  exact W.lt_data r1 r2 h1 h3 (min_room hu h2) ⟨.bl _, H, I, rfl, wd_bool ha q⟩
theorem op_gtD (hu : X.A.units + 100 < cLine) : OpR X (compareOp .Gt) (rD2 X.K (cmpD .Gt)) := by
  intro pins s σ H x y v u Q I rx ry h
  obtain ⟨A, dx, dy, E, ha, hx, hy, h⟩ := h
  obtain ⟨hl, q⟩ := gd_sat h
  obtain ⟨h1, h2, h3⟩ := ord_ok hl
  obtain ⟨as, r1⟩ := hx.reads I rx
  obtain ⟨bs, r2⟩ := hy.reads I ry
  exact W.gt_data r1 r2 h1 h3 (min_room hu h2) ⟨.bl _, H, I, rfl, wd_bool ha q⟩
theorem op_leD (hu : X.A.units + 100 < cLine) : OpR X (compareOp .LtE) (rD2 X.K (cmpD .LtE)) := by
  intro pins s σ H x y v u Q I rx ry h
  obtain ⟨A, dx, dy, E, ha, hx, hy, h⟩ := h
  obtain ⟨hl, q⟩ := gd_sat h
  obtain ⟨h1, h2, h3⟩ := ord_ok hl
  obtain ⟨as, r1⟩ := hx.reads I rx
  obtain ⟨bs, r2⟩ := hy.reads I ry
  exact W.le_data r1 r2 h1 h3 (min_room hu h2) ⟨.bl _, H, I, rfl, wd_bool ha q⟩
theorem op_geD (hu : X.A.units + 100 < cLine) : OpR X (compareOp .GtE) (rD2 X.K (cmpD .GtE)) := by
  intro pins s σ H x y v u Q I rx ry h
  obtain ⟨A, dx, dy, E, ha, hx, hy, h⟩ := h
  obtain ⟨hl, q⟩ := gd_sat h
  obtain ⟨h1, h2, h3⟩ := ord_ok hl
  obtain ⟨as, r1⟩ := hx.reads I rx
  obtain ⟨bs, r2⟩ := hy.reads I ry
  exact W.ge_data r1 r2 h1 h3 (min_room hu h2) ⟨.bl _, H, I, rfl, wd_bool ha q⟩
theorem op_isD : OpR X (compareOp .Is) (rD2 X.K (cmpD .Is)) := by
  intro pins s σ H x y v u Q I rx ry h
  obtain ⟨A, dx, dy, E, ha, hx, hy, h⟩ := h
  cases dy with
  | none =>
    have ey : y = .non := of_decide_eq_true hy.none_iff
    refine op_isN pins s σ H x y v u Q I rx ry ⟨ey, ?_⟩
    rw [hx.none_iff]
    have q : Wd X.K A H Q (.d (.bool (isNoneD dx))) := by
      cases dx <;> exact h
    exact wd_bool ha q
  | _ => exact h.elim
theorem op_isNotD : OpR X (compareOp .IsNot) (rD2 X.K (cmpD .IsNot)) := by
  intro pins s σ H x y v u Q I rx ry h
  obtain ⟨A, dx, dy, E, ha, hx, hy, h⟩ := h
  cases dy with
  | none =>
    have ey : y = .non := of_decide_eq_true hy.none_iff
    refine op_notN pins s σ H x y v u Q I rx ry ⟨ey, ?_⟩
    rw [hx.none_iff]
    have q : Wd X.K A H Q (.d (.bool (!isNoneD dx))) := by
      cases dx <;> exact h
    exact wd_bool ha q
  | _ => exact h.elim
theorem in_room {a b : Nat} {U : Nat} (hu : U + 100 < cLine) (h : (Nat.ble a 64 || Nat.ble b 64) = true) : U + 1 + min b a < cLine := by
  rcases Bool.or_eq_true_iff.mp h with h | h
  · have := Nat.le_of_ble_eq_true h
    omega
  · have := Nat.le_of_ble_eq_true h
    omega
theorem op_inD' (hu : X.A.units + 100 < cLine) : OpR X (compareOp .In) (rD2 X.K (cmpD .In)) := by
  intro pins s σ H x y v u Q I rx ry h
  obtain ⟨A, dx, dy, E, ha, hx, hy, h⟩ := h
  obtain ⟨as, r1⟩ := hx.reads I rx
  obtain ⟨bs, r2⟩ := hy.reads I ry
  cases dy with
  | list ys =>
    obtain ⟨hl, q⟩ := gd_sat h
    obtain ⟨h1, h2⟩ := ba hl
    exact SeqAt.in_list_data r2 r1 (ba h1).2 (ba h1).1 (in_room hu h2) ⟨.bl _, H, I, rfl, wd_bool ha q⟩
  | tuple ys =>
    obtain ⟨hl, q⟩ := gd_sat h
    obtain ⟨h1, h2⟩ := ba hl
    exact SeqAt.in_tuple_data r2 r1 (ba h1).2 (ba h1).1 (in_room hu h2) ⟨.bl _, H, I, rfl, wd_bool ha q⟩
  | _ => exact h.elim
theorem op_notInD (hu : X.A.units + 100 < cLine) : OpR X (compareOp .NotIn) (rD2 X.K (cmpD .NotIn)) := by
  intro pins s σ H x y v u Q I rx ry h
  obtain ⟨A, dx, dy, E, ha, hx, hy, h⟩ := h
  obtain ⟨as, r1⟩ := hx.reads I rx
  obtain ⟨bs, r2⟩ := hy.reads I ry
  cases dy with
  | list ys =>
    obtain ⟨hl, q⟩ := gd_sat h
    obtain ⟨h1, h2⟩ := ba hl
    exact SeqAt.notIn_list_data r2 r1 (ba h1).2 (ba h1).1 (in_room hu h2) ⟨.bl _, H, I, rfl, wd_bool ha q⟩
  | tuple ys =>
    obtain ⟨hl, q⟩ := gd_sat h
    obtain ⟨h1, h2⟩ := ba hl
    exact SeqAt.notIn_tuple_data r2 r1 (ba h1).2 (ba h1).1 (in_room hu h2) ⟨.bl _, H, I, rfl, wd_bool ha q⟩
  | _ => exact h.elim
theorem op_cmpD (hu : X.A.units + 100 < cLine) : ∀ o : CmpOp, OpR X (compareOp o) (rD2 X.K (cmpD o))
  | .Eq => op_eqD' hu
  | .NotEq => op_neD' hu
  | .Lt => op_ltD hu
  | .LtE => op_leD hu
  | .Gt => op_gtD hu
  | .GtE => op_geD hu
  | .Is => op_isD
  | .IsNot => op_isNotD
  | .In => op_inD' hu
  | .NotIn => op_notInD hu
theorem un_negD : UnR X (unaryOp .USub) (rD1 X.K negD) := by
  intro pins s σ H x v Q I rx h
  obtain ⟨A, dx, E, ha, hx, h⟩ := h
  cases dx with
  | int i => exact un_neg pins s σ H x v Q I rx ⟨i, hx.int, wd_int ha h⟩
  | _ => exact h.elim

theorem atI_map {ds : List PyData} {vs : List V} {A : Addr → Prop} {i : Int} {d : PyData} (h : DAs A X.K H vs ds) (e : atI ds i = some d) : ∃ v, atI vs i = some v ∧ DA A X.K H v d := by
  unfold atI at e ⊢
  rw [h.length]
  cases q : ixN ds.length i with
  | none => rw [q] at e; cases e
  | some j =>
    rw [q] at e
    exact h.get e
theorem ix_D : IxR X (fun x y H Q => ∃ A dx i E, AOk A H ∧ Rep0 A X.K H x dx ∧ y = .int i ∧ (idxD dx i).Sat (Wd X.K A H Q) E) := by
  intro value slice pins s σ H x y v u Q I rx ry h hs
  obtain ⟨A, dx, i, E, ha, hx, rfl, h⟩ := h
  unfold idxD at h
  cases e1 : seqOf dx with
  | none => rw [e1] at h; exact h.elim
  | some ds =>
    rw [e1] at h
    cases e2 : atI ds i with
    | none => simp only [e2] at h; exact h.elim
    | some d =>
      simp only [e2] at h
      obtain ⟨a, xs, rfl, hq, hr⟩ := hx.seq e1
      obtain ⟨w, hw, hd⟩ := atI_map hr e2
      rcases hq with hq | hq
      · exact ix_list value slice pins s σ H _ _ v u Q I rx ry ⟨a, xs, i, w, rfl, rfl, hq, hw, wd_da ha h hd⟩ hs
      · exact ix_tup value slice pins s σ H _ _ v u Q I rx ry ⟨a, xs, i, w, rfl, rfl, hq, hw, wd_da ha h hd⟩ hs
theorem cut_das {A : Addr → Prop} {vs : List V} {ds : List PyData} (h : DAs A X.K H vs ds) (lo hi : Option Int) : DAs A X.K H (cutV vs lo hi) (cutD ds lo hi) := by
  unfold cutV cutD
  rw [h.length]
  exact (h.drop _).take _
theorem sl_D : SlR X (fun x lo hi H Q => ∃ A dx E, AOk A H ∧ Rep0 A X.K H x dx ∧ (slcD dx lo hi).Sat (Wd X.K A H Q) E) := by
  intro pins s σ H x v vl vu lo hi sl Q I rx hs pl pu h
  obtain ⟨A, dx, E, ha, hx, h⟩ := h
  cases dx with
  | list ds =>
    obtain ⟨a, xs, rfl, hq, hr⟩ := hx.list
    exact sl_list pins s σ H _ v vl vu lo hi sl Q I rx hs pl pu ⟨a, xs, rfl, hq, fun p hp => wd_lst ha h hp (cut_das hr lo hi)⟩
  | tuple ds =>
    obtain ⟨a, xs, rfl, hq, hr⟩ := hx.tuple
    cases rx
    obtain ⟨its, r, ht, hz⟩ := I.tuple hq.sq
    have hlen : its.toArray.size = xs.length := by rw [List.size_toArray]; exact r.length.symm
    refine ⟨"tuple", _, PyProof.Rows.slot_tuple_getitem.lookup, ht.typeIs, ?_⟩
    by_cases hw : HT.sIx xs.length 0 lo = 0 ∧ HT.sIx xs.length xs.length hi = xs.length
    · refine getItem_tuple_whole ht hs pl pu (by rw [hlen]; exact hw) ⟨.ref a, H, I, rfl, ?_⟩
      have e : cutD ds lo hi = ds := by
        unfold cutD
        rw [← hr.length, hw.1, hw.2, List.drop_zero, Nat.sub_zero, hr.length, List.take_length]
      have h' : Wd X.K A H Q (.d (.tuple (cutD ds lo hi))) := h
      rw [e] at h'
      exact wd_tupOld ha h' hq hr
    · refine HT.getItem_tuple_cut ht hs pl pu (by rw [hlen]; exact hw) ?_ (by rw [hlen]; exact hz)
      rw [hlen]
      have hf := I.hok.fresh (Nat.le_refl s.heap.objs.size)
      refine ⟨.ref s.heap.objs.size, _, tupNew (tk := s.toks) I (fun b ob q => Heap.get?_push_of_some _ q) (Nat.le_refl _) (Heap.get?_push_size _ rfl) rfl rfl
        ((r.drop (HT.sIx xs.length 0 lo)).take (HT.sIx xs.length xs.length hi - HT.sIx xs.length 0 lo)) (Nat.le_trans (cutV_length xs lo hi) hz), rfl, wd_tup ha h hf (by rfl) (cut_das hr lo hi)⟩
  | _ => exact h.elim
end
end Dv
end
section
namespace Dv
open PySem PySem.Spec PyProof.Rows L2
section
variable {X : Cx} {C : EC} {pins : List (Addr × Obj)} {s : Shared} {σ : L2.St} {H : Hp}

/-- several arguments -/
def rDs (K : PySem.W.Frag) (op : List D → M Val) : List V → Hp → VK → Prop := fun vs H Q => ∃ A ds E, AOk A H ∧ Paired (Rep0 A K H) vs ds ∧ (op ds).Sat (Wd K A H Q) E
theorem pair1 {A : Addr → Prop} {K : PySem.W.Frag} {vs : List V} {d : PyData} (h : Paired (Rep0 A K H) vs [d]) : ∃ v, vs = [v] ∧ Rep0 A K H v d := by
  cases h with
  | cons a b => cases b; exact ⟨_, rfl, a⟩
theorem pair2 {A : Addr → Prop} {K : PySem.W.Frag} {vs : List V} {d e : PyData} (h : Paired (Rep0 A K H) vs [d, e]) : ∃ v w, vs = [v, w] ∧ Rep0 A K H v d ∧ Rep0 A K H w e := by
  cases h with
  | cons a b =>
    cases b with
    | cons c d => cases d; exact ⟨_, _, rfl, a, c⟩
theorem c_len : CallR X (.builtin "len") (rDs X.K (bltD .len)) := by
  intro pins s σ H vs us Q I r h
  obtain ⟨A, ds, E, ha, hp, h⟩ := h
  match ds, hp, h with
  | [x], hp, h =>
    obtain ⟨v, rfl, hx⟩ := pair1 hp
    cases x with
    | list ys =>
      obtain ⟨a, xs, rfl, hq, hr⟩ := hx.list
      refine call_len pins s σ H _ us Q I r ⟨_, xs.length, rfl, .inl ⟨xs, hq, rfl⟩, ?_⟩
      rw [hr.length]
      exact wd_int ha h
    | tuple ys =>
      obtain ⟨a, xs, rfl, hq, hr⟩ := hx.tuple
      refine call_len pins s σ H _ us Q I r ⟨_, xs.length, rfl, .inr ⟨xs, hq.sq, rfl⟩, ?_⟩
      rw [hr.length]
      exact wd_int ha h
    | str x =>
      obtain ⟨hl, q⟩ := gd_sat h
      exact call_len pins s σ H _ us Q I r ⟨_, x.length, rfl, by rw [hx.str]; exact ⟨lim_le hl, rfl⟩, wd_int ha q⟩
    | _ => exact h.elim
  | [], _, h => exact h.elim
  | _ :: _ :: _, _, h => exact h.elim
theorem c_tuple : CallR X (.type "tuple") (rDs X.K (bltD .tuple)) := by
  intro pins s σ H vs us Q I r h
  obtain ⟨A, ds, E, ha, hp, h⟩ := h
  match ds, hp, h with
  | [x], hp, h =>
    obtain ⟨v, rfl, hx⟩ := pair1 hp
    obtain ⟨u, rfl, rx⟩ := vals1 r
    cases x with
    | list ys =>
      obtain ⟨a, xs, rfl, hq, hr⟩ := hx.list
      cases rx
      obtain ⟨its, r', pl, hz⟩ := I.list hq
      refine call_tuple_list pl.isList (fun h' kp => ?_) (by rw [List.size_toArray, ← r'.length]; exact hz)
      have I1 : Inv X pins σ H { s with heap := h' } := I.kept (t' := s.toks) kp
      have hf := I1.hok.fresh (Nat.le_refl _)
      exact ⟨.ref h'.objs.size, _, tupNew (s := { s with heap := h' }) (tk := s.toks) I1 (fun b ob q => Heap.get?_push_of_some _ q) (Nat.le_refl _) (Heap.get?_push_size _ rfl) rfl rfl r' hz, rfl, wd_tup ha h hf (by rfl) hr⟩
    | tuple ys =>
      obtain ⟨a, xs, rfl, hq, hr⟩ := hx.tuple
      cases rx
      obtain ⟨its, r', pl, hz⟩ := I.tuple hq.sq
      exact call_tuple_same pl ⟨.ref a, H, I, rfl, wd_tupOld ha h hq hr⟩
    | _ => exact h.elim
  | [], _, h => exact h.elim
  | _ :: _ :: _, _, h => exact h.elim
/-- a new list is wanted -/
def Wf (K : PySem.W.Frag) (A : Addr → Prop) (H : Hp) (Q : VK) : Val → Prop := fun d => ∀ p xs es, d = .d (.list es) → H p = none → DAs A K H xs es → Q (.ref p) (upd H p (.lst xs))
def rFs (K : PySem.W.Frag) (op : List D → M Val) : List V → Hp → VK → Prop := fun vs H Q => ∃ A ds E, AOk A H ∧ Paired (Rep0 A K H) vs ds ∧ (op ds).Sat (Wf K A H Q) E
theorem c_listF : CallR X (.type "list") (rFs X.K (bltD .list)) := by
  intro pins s σ H vs us Q I r h
  obtain ⟨A, ds, E, ha, hp, h⟩ := h
  match ds, hp, h with
  | [x], hp, h =>
    obtain ⟨v, rfl, hx⟩ := pair1 hp
    cases x with
    | list ys =>
      obtain ⟨a, xs, rfl, hq, hr⟩ := hx.list
      exact call_list_of pins s σ H _ us Q I r ⟨a, xs, rfl, .inl hq, fun p hp => h p xs ys rfl hp hr⟩
    | tuple ys =>
      obtain ⟨a, xs, rfl, hq, hr⟩ := hx.tuple
      exact call_list_of pins s σ H _ us Q I r ⟨a, xs, rfl, .inr hq.sq, fun p hp => h p xs ys rfl hp hr⟩
    | _ => exact h.elim
  | [], _, h => exact h.elim
  | _ :: _ :: _, _, h => exact h.elim
theorem c_all (hc : X.calm = true) : CallR X (.builtin "all") (rDs X.K (bltD .all)) := by
  intro pins s σ H vs us Q I r h
  obtain ⟨A, ds, E, ha, hp, h⟩ := h
  match ds, hp, h with
  | [.list ys], hp, h =>
    obtain ⟨v, rfl, hx⟩ := pair1 hp
    obtain ⟨a, xs, rfl, hq, hr⟩ := hx.list
    have h' : (match boolsOf ys with
      | some bs => okd (.bool (bs.all id))
      | none => M.bad).Sat (Wd X.K A H Q) E := h
    cases e : boolsOf ys with
    | none => rw [e] at h'; exact h'.elim
    | some bs =>
      rw [e] at h'
      exact cr_all hc pins s σ H _ us Q I r ⟨a, bs, rfl, by rw [← hr.bools e]; exact hq, wd_bool ha h'⟩
  | [.none], _, h => exact h.elim
  | [.bool _], _, h => exact h.elim
  | [.int _], _, h => exact h.elim
  | [.str _], _, h => exact h.elim
  | [.tuple _], _, h => exact h.elim
  | [.dict _], _, h => exact h.elim
  | [], _, h => exact h.elim
  | a :: _ :: _, _, h => exact (by cases a <;> exact h.elim)
theorem c_any (hc : X.calm = true) : CallR X (.builtin "any") (rDs X.K (bltD .any)) := by
  intro pins s σ H vs us Q I r h
  obtain ⟨A, ds, E, ha, hp, h⟩ := h
  match ds, hp, h with
  | [.list ys], hp, h =>
    obtain ⟨v, rfl, hx⟩ := pair1 hp
    obtain ⟨a, xs, rfl, hq, hr⟩ := hx.list
    have h' : (match boolsOf ys with
      | some bs => okd (.bool (bs.any id))
      | none => M.bad).Sat (Wd X.K A H Q) E := h
    cases e : boolsOf ys with
    | none => rw [e] at h'; exact h'.elim
    | some bs =>
      rw [e] at h'
      exact cr_any hc pins s σ H _ us Q I r ⟨a, bs, rfl, by rw [← hr.bools e]; exact hq, wd_bool ha h'⟩
  | [.none], _, h => exact h.elim
  | [.bool _], _, h => exact h.elim
  | [.int _], _, h => exact h.elim
  | [.str _], _, h => exact h.elim
  | [.tuple _], _, h => exact h.elim
  | [.dict _], _, h => exact h.elim
  | [], _, h => exact h.elim
  | a :: _ :: _, _, h => exact (by cases a <;> exact h.elim)
theorem c_sum (hc : X.calm = true) : CallR X (.builtin "sum") (rDs X.K (bltD .sum)) := by
  intro pins s σ H vs us Q I r h
  obtain ⟨A, ds, E, ha, hp, h⟩ := h
  match ds, hp, h with
  | [.list ys], hp, h =>
    obtain ⟨v, rfl, hx⟩ := pair1 hp
    obtain ⟨a, xs, rfl, hq, hr⟩ := hx.list
    have h' : (match intsOf ys with
      | some ns => okd (.int ns.sum)
      | none => M.bad).Sat (Wd X.K A H Q) E := h
    cases e : intsOf ys with
    | none => rw [e] at h'; exact h'.elim
    | some bs =>
      rw [e] at h'
      exact cr_sum hc pins s σ H _ us Q I r ⟨a, bs, rfl, by rw [← hr.ints e]; exact hq, wd_int ha h'⟩
  | [.none], _, h => exact h.elim
  | [.bool _], _, h => exact h.elim
  | [.int _], _, h => exact h.elim
  | [.str _], _, h => exact h.elim
  | [.tuple _], _, h => exact h.elim
  | [.dict _], _, h => exact h.elim
  | [], _, h => exact h.elim
  | a :: _ :: _, _, h => exact (by cases a <;> exact h.elim)

theorem alike_all {xs : List D} (h : alikeB xs = true) : ∀ d, d ∈ xs → ∀ d', d' ∈ xs → W.alike d d' = true := by
  intro d hd d' hd'
  exact List.all_eq_true.mp (List.all_eq_true.mp h d hd) d' hd'
theorem fold_mem {f : D → D → D} (hf : ∀ a b, f a b = a ∨ f a b = b) : ∀ (xs : List D) (x : D), xs.foldl f x ∈ x :: xs
  | [], x => List.mem_cons_self
  | y :: ys, x => by
    have ih := fold_mem hf ys (f x y)
    show ys.foldl f (f x y) ∈ _
    rcases List.mem_cons.mp ih with e | e
    · rw [e]
      rcases hf x y with z | z
      · rw [z]; exact List.mem_cons_self
      · rw [z]; exact List.mem_cons_of_mem _ List.mem_cons_self
    · exact List.mem_cons_of_mem _ (List.mem_cons_of_mem _ e)
theorem minD_mem (x : D) (xs : List D) : W.minD x xs ∈ x :: xs := fold_mem (fun a b => by
  split
  · exact .inr rfl
  · exact .inl rfl) xs x
theorem maxD_mem (x : D) (xs : List D) : W.maxD x xs ∈ x :: xs := fold_mem (fun a b => by
  split
  · exact .inr rfl
  · exact .inl rfl) xs x
theorem mm_ok {x : D} {xs : List D} (h : mmOk x xs = true) : (∀ d, d ∈ x :: xs → ∀ d', d' ∈ x :: xs → W.alike d d' = true) ∧ x ≠ .none ∧ PyData.depthAll (x :: xs) ≤ 64 := by
  unfold mmOk at h
  obtain ⟨h, h3⟩ := ba h
  obtain ⟨h1, h2⟩ := ba h
  refine ⟨alike_all h1, fun e => ?_, Nat.le_of_ble_eq_true h3⟩
  rw [e] at h2
  cases h2
theorem alike_none {x : D} (h : W.alike .none x = true) : x = .none := by
  cases x with
  | none => rfl
  | _ => cases h
theorem mm_alike {x : D} {xs : List D} (h : mmOk x xs = true) : W.AlikeAll (x :: xs) := by
  obtain ⟨h1, h2, _⟩ := mm_ok h
  refine ⟨h1, fun y hy e => ?_⟩
  subst e
  exact h2 (alike_none (h1 _ hy _ List.mem_cons_self))
/-- an item of a list, by what it reads as -/
theorem item_is {A : Addr → Prop} {xs : List V} {its : List Value} {ds : List D} {d : D} {i : Nat} {v : Value} {bs : List Addr} (I : Inv X pins σ H s) (r : Vals xs its) (hr : DAs A X.K H xs ds) (ha : ∀ e, e ∈ ds → W.alike e d = true)
    (e : its[i]? = some v) (rd : Reads s.heap v d bs) : ∃ w, RelV w v ∧ DA A X.K H w d := by
  have hi : i < xs.length := by
    rw [r.length]
    exact (List.getElem?_eq_some_iff.mp e).1
  have e1 : xs[i]? = some xs[i] := List.getElem?_eq_getElem hi
  obtain ⟨u, e2, rv⟩ := r.get e1
  rw [e] at e2
  cases e2
  obtain ⟨d', e3, h3⟩ := hr.getV e1
  obtain ⟨as, rd'⟩ := Rep0.reads I (.inl h3) rv
  have eq : d' = d := W.alike_unique _ _ _ _ _ (ha d' (List.mem_of_getElem? e3)) rd' rd
  subst eq
  exact ⟨_, rv, h3⟩
theorem c_min (hc : X.calm = true) (hu : X.A.units + 100 < cLine) : CallR X (.builtin "min") (rDs X.K (bltD .min)) := by
  intro pins s σ H vs us Q I r h
  obtain ⟨A, ds, E, ha, hp, h⟩ := h
  have one : ∀ x, ds = [x] → (match seqOf x with
      | some (y :: ys) => gd (mmOk y ys) (W.minD y ys)
      | _ => M.bad).Sat (Wd X.K A H Q) E → wpAny (model X.prog X.w) X.A (call (.builtin "min") us) (EP X pins σ Q) X.xe s := by
    intro x e hh
    subst e
    obtain ⟨v, rfl, hx⟩ := pair1 hp
    obtain ⟨u, rfl, rx⟩ := vals1 r
    cases e1 : seqOf x with
    | none => rw [e1] at hh; exact hh.elim
    | some zs =>
      rw [e1] at hh
      cases zs with
      | nil => exact hh.elim
      | cons y ys =>
        obtain ⟨hl, q⟩ := gd_sat hh
        obtain ⟨m1, m2, m3⟩ := mm_ok hl
        obtain ⟨a, xs, rfl, hq, hr⟩ := hx.seq e1
        cases rx
        have hm := minD_mem y ys
        rcases hq with hq | hq
        · obtain ⟨its, r', pl, hz⟩ := I.list hq
          obtain ⟨as, rs⟩ := hr.reads I r'
          refine W.min_list_data (I.ok.hd hc) pl.isList (by simpa using rs) (mm_alike hl) (by omega) fun i v h' tk bs e rd kp => ?_
          have I1 : Inv X pins σ H { s with heap := h', toks := tk } := I.kept kp
          obtain ⟨w, rw', hd⟩ := item_is I1 r' hr (fun d hd => m1 d hd _ hm) (by simpa using e) rd
          exact ⟨w, H, I1, rw', wd_da ha q hd⟩
        · obtain ⟨its, r', pl, hz⟩ := I.tuple hq
          obtain ⟨as, rs⟩ := hr.reads I r'
          refine W.min_tuple_data (I.ok.hd hc) pl (by simpa using rs) (mm_alike hl) (by omega) fun i v h' tk bs e rd kp => ?_
          have I1 : Inv X pins σ H { s with heap := h', toks := tk } := I.kept kp
          obtain ⟨w, rw', hd⟩ := item_is I1 r' hr (fun d hd => m1 d hd _ hm) (by simpa using e) rd
          exact ⟨w, H, I1, rw', wd_da ha q hd⟩
  match ds, hp, h, one with
  | [], _, h, _ => exact h.elim
  | [x], _, h, one => exact one x rfl (by cases x <;> exact h)
  | [.int i, .int j], hp, h, _ =>
    obtain ⟨v, w, rfl, h1, h2⟩ := pair2 hp
    exact call_min2 hc pins s σ H _ us Q I r ⟨i, j, by rw [h1.int, h2.int], wd_int ha h⟩
  | [.int _, .none], _, h, _ => exact h.elim
  | [.int _, .bool _], _, h, _ => exact h.elim
  | [.int _, .str _], _, h, _ => exact h.elim
  | [.int _, .list _], _, h, _ => exact h.elim
  | [.int _, .tuple _], _, h, _ => exact h.elim
  | [.int _, .dict _], _, h, _ => exact h.elim
  | [.none, _], _, h, _ => exact h.elim
  | [.bool _, _], _, h, _ => exact h.elim
  | [.str _, _], _, h, _ => exact h.elim
  | [.list _, _], _, h, _ => exact h.elim
  | [.tuple _, _], _, h, _ => exact h.elim
  | [.dict _, _], _, h, _ => exact h.elim
  | a :: b :: _ :: _, _, h, _ => exact (by cases a <;> first | exact h.elim | (cases b <;> exact h.elim))
theorem c_max (hc : X.calm = true) (hu : X.A.units + 100 < cLine) : CallR X (.builtin "max") (rDs X.K (bltD .max)) := by
  intro pins s σ H vs us Q I r h
  obtain ⟨A, ds, E, ha, hp, h⟩ := h
  have one : ∀ x, ds = [x] → (match seqOf x with
      | some (y :: ys) => gd (mmOk y ys) (W.maxD y ys)
      | _ => M.bad).Sat (Wd X.K A H Q) E → wpAny (model X.prog X.w) X.A (call (.builtin "max") us) (EP X pins σ Q) X.xe s := by
    intro x e hh
    subst e
    obtain ⟨v, rfl, hx⟩ := pair1 hp
    obtain ⟨u, rfl, rx⟩ := vals1 r
    cases e1 : seqOf x with
    | none => rw [e1] at hh; exact hh.elim
    | some zs =>
      rw [e1] at hh
      cases zs with
      | nil => exact hh.elim
      | cons y ys =>
        obtain ⟨hl, q⟩ := gd_sat hh
        obtain ⟨m1, m2, m3⟩ := mm_ok hl
        obtain ⟨a, xs, rfl, hq, hr⟩ := hx.seq e1
        cases rx
        have hm := maxD_mem y ys
        rcases hq with hq | hq
        · obtain ⟨its, r', pl, hz⟩ := I.list hq
          obtain ⟨as, rs⟩ := hr.reads I r'
          refine W.max_list_data (I.ok.hd hc) pl.isList (by simpa using rs) (mm_alike hl) (by omega) fun i v h' tk bs e rd kp => ?_
          have I1 : Inv X pins σ H { s with heap := h', toks := tk } := I.kept kp
          obtain ⟨w, rw', hd⟩ := item_is I1 r' hr (fun d hd => m1 d hd _ hm) (by simpa using e) rd
          exact ⟨w, H, I1, rw', wd_da ha q hd⟩
        · obtain ⟨its, r', pl, hz⟩ := I.tuple hq
          obtain ⟨as, rs⟩ := hr.reads I r'
          refine W.max_tuple_data (I.ok.hd hc) pl (by simpa using rs) (mm_alike hl) (by omega) fun i v h' tk bs e rd kp => ?_
          have I1 : Inv X pins σ H { s with heap := h', toks := tk } := I.kept kp
          obtain ⟨w, rw', hd⟩ := item_is I1 r' hr (fun d hd => m1 d hd _ hm) (by simpa using e) rd
          exact ⟨w, H, I1, rw', wd_da ha q hd⟩
  match ds, hp, h, one with
  | [], _, h, _ => exact h.elim
  | [x], _, h, one => exact one x rfl (by cases x <;> exact h)
  | [.int i, .int j], hp, h, _ =>
    obtain ⟨v, w, rfl, h1, h2⟩ := pair2 hp
    exact call_max2 hc pins s σ H _ us Q I r ⟨i, j, by rw [h1.int, h2.int], wd_int ha h⟩
  | [.int _, .none], _, h, _ => exact h.elim
  | [.int _, .bool _], _, h, _ => exact h.elim
  | [.int _, .str _], _, h, _ => exact h.elim
  | [.int _, .list _], _, h, _ => exact h.elim
  | [.int _, .tuple _], _, h, _ => exact h.elim
  | [.int _, .dict _], _, h, _ => exact h.elim
  | [.none, _], _, h, _ => exact h.elim
  | [.bool _, _], _, h, _ => exact h.elim
  | [.str _, _], _, h, _ => exact h.elim
  | [.list _, _], _, h, _ => exact h.elim
  | [.tuple _, _], _, h, _ => exact h.elim
  | [.dict _, _], _, h, _ => exact h.elim
  | a :: b :: _ :: _, _, h, _ => exact (by cases a <;> first | exact h.elim | (cases b <;> exact h.elim))

theorem c_repr (hg : X.A.guards = some []) (hu : X.A.units + 100 < cLine) : CallR X (.builtin "repr") (rDs X.K (bltD .repr)) := by
  intro pins s σ H vs us Q I r h
  obtain ⟨A, ds, E, ha, hp, h⟩ := h
  match ds, hp, h with
  | [x], hp, h =>
    obtain ⟨v, rfl, hx⟩ := pair1 hp
    obtain ⟨u, rfl, rx⟩ := vals1 r
    obtain ⟨hl, q⟩ := gd_sat h
    obtain ⟨hl, h4⟩ := ba hl
    obtain ⟨hl, h3⟩ := ba hl
    obtain ⟨h1, h2⟩ := ba hl
    have h2' : x.hasDict = false := by simpa using h2
    have hz := lim_le h4
    have hd := Nat.le_of_ble_eq_true h3
    obtain ⟨as, rd⟩ := hx.reads I rx
    have fin : ∀ (h' : Heap) (t : Tok) (tk : Nat), (∀ b o, s.heap.get? b = some o → h'.get? b = some o) → EP X pins σ Q (.str x.shown t) { s with heap := h', toks := tk } := fun h' t tk kp =>
      ⟨.str x.shown, H, I.kept kp, ⟨t, rfl⟩, wd_str ha q⟩
    cases u with
    | ref a => exact repr_of_reads' rd h1 (fun z => by rw [h2'] at z; cases z) hg (by omega) (fun _ _ e => e) (fun h' t tk kp => fin h' t tk kp) hz
    | none =>
      cases rd
      simp only [PyData.shown] at fin
      exact PySem.P.repr_of_none (fin s.heap _ _ fun _ _ e => e)
    | bool b =>
      cases rd
      simp only [PyData.shown] at fin
      exact PySem.P.repr_of_bool (fin s.heap _ _ fun _ _ e => e)
    | int i t =>
      cases rd
      simp only [PyData.shown] at fin
      exact PySem.P.repr_of_int (by simpa [PyData.showable] using h1) (fin s.heap _ _ fun _ _ e => e)
    | str z t =>
      cases rd
      simp only [PyData.shown] at fin hz
      exact PySem.P.repr_of_str (fin s.heap _ _ fun _ _ e => e) hz
    | _ => cases rd
  | [], _, h => exact h.elim
  | _ :: _ :: _, _, h => exact h.elim
end
end Dv
end
section
namespace Dv
open PySem PySem.Spec PyProof.Rows L2
section
variable {X : Cx} {C : EC} {pins : List (Addr × Obj)} {s : Shared} {σ : L2.St} {H : Hp}

theorem c_isa {v : Value} {d : D} {as : List Addr} {A : Addr → Prop} {Q : VK} (I : Inv X pins σ H s) (rd : Reads s.heap v d as) (ha : AOk A H) : ∀ {t : Ty} {T : String}, (t = .int ∧ T = "int" ∨ t = .bool ∧ T = "bool" ∨ t = .str ∧ T = "str" ∨ t = .tuple ∧ T = "tuple" ∨ t = .list ∧ T = "list") →
    Wd X.K A H Q (.d (.bool (isaD t d))) → wpAny (model X.prog X.w) X.A (call (.builtin "isinstance") [v, .type T]) (EP X pins σ Q) X.xe s := by
  intro t T h q
  have fin : ∀ (b : Bool) (tk : Nat), isaD t d = b → EP X pins σ Q (.bool b) { s with toks := tk } := fun b tk e => ⟨.bl b, H, I.tok tk, rfl, by rw [← e]; exact wd_bool ha q⟩
  rcases h with ⟨rfl, rfl⟩ | ⟨rfl, rfl⟩ | ⟨rfl, rfl⟩ | ⟨rfl, rfl⟩ | ⟨rfl, rfl⟩
  · exact W.isinstance_int_data rd fun tk _ => fin _ tk (by cases d <;> rfl)
  · exact W.isinstance_bool_data rd fun tk _ => fin _ tk (by cases d <;> rfl)
  · exact W.isinstance_str_data rd fun tk _ => fin _ tk (by cases d <;> rfl)
  · exact W.isinstance_tuple_data rd fun tk _ => fin _ tk (by cases d <;> rfl)
  · exact W.isinstance_list_data rd fun tk _ => fin _ tk (by cases d <;> rfl)

theorem plain_mem {d : D} : ∀ {ds : List D}, PyData.plainAll ds = true → d ∈ ds → d.plain = true ∧ d.depth ≤ PyData.depthAll ds
  | [], _, h => by cases h
  | z :: zs, hp, h => by
    have hq : z.plain = true ∧ PyData.plainAll zs = true := by simpa [PyData.plainAll] using hp
    have hd : z.depth ≤ PyData.depthAll (z :: zs) ∧ PyData.depthAll zs ≤ PyData.depthAll (z :: zs) := by
      simp only [PyData.depthAll]
      omega
    rcases List.mem_cons.mp h with e | e
    · subst e
      exact ⟨hq.1, hd.1⟩
    · obtain ⟨a, b⟩ := plain_mem hq.2 e
      exact ⟨a, Nat.le_trans b hd.2⟩
theorem items_eq {A : Addr → Prop} {xs : List V} {its : List Value} {ds : List D} {y : D} {u : Value} {bs : List Addr} {Ar : Around} (I : Inv X pins σ H s) (r : Vals xs its) (hr : DAs A X.K H xs ds) (rd : Reads s.heap u y bs) (ok : inOk y ds = true)
    (hu : Ar.units + 90 < cLine) : SeqAt.ItemsEq Ar s its (ds.map fun z => PyData.eqv z y) u true := by
  obtain ⟨as, rs⟩ := hr.reads I r
  unfold inOk at ok
  obtain ⟨h1, h3⟩ := ba ok
  obtain ⟨h1, h2⟩ := ba h1
  refine ⟨by rw [List.length_map, ← r.length, hr.length], fun j j1 j2 => ?_⟩
  have e := SeqAt.eqAt_plainAll ds (List.replicate ds.length y) Ar s its (List.replicate its.length u)
  have hj : j < ds.length := by rw [List.length_map] at j2; exact j2
  have e1 : (ds.map fun z => PyData.eqv z y)[j] = PyData.eqv ds[j] y := by simp
  rw [e1]
  have e2 : decide (PyData.eqv ds[j] y = true) = PyData.eqv ds[j] y := by
    cases PyData.eqv ds[j] y <;> rfl
  rw [e2]
  have hx : j < xs.length := by rw [hr.length]; exact hj
  obtain ⟨w, q1, q2⟩ := r.get (List.getElem?_eq_getElem hx)
  rw [List.getElem?_eq_getElem j1] at q1
  cases q1
  obtain ⟨d, q3, q4⟩ := hr.getV (List.getElem?_eq_getElem hx)
  rw [List.getElem?_eq_getElem hj] at q3
  cases q3
  obtain ⟨cs, rc⟩ := Rep0.reads I (.inl q4) q2
  have pl := plain_mem h2 (List.getElem_mem hj)
  refine SeqAt.eqAt_plain _ _ _ _ _ _ _ _ rc rd pl.1 h1 ?_
  rcases Bool.or_eq_true_iff.mp h3 with z | z
  · have := Nat.le_of_ble_eq_true z
    omega
  · have := Nat.le_of_ble_eq_true z
    have := pl.2
    omega
theorem find_idx {p : D → Bool} : ∀ {xs : List D} {j : Nat}, xs.findIdx? p = some j → (xs.map p).idxOf true = j ∧ true ∈ xs.map p
  | [], _, h => by cases h
  | x :: xs, j, h => by
    rw [List.findIdx?_cons] at h
    cases e : p x with
    | true =>
      rw [e, if_pos rfl] at h
      cases h
      rw [List.map_cons, e]
      exact ⟨by simp, List.mem_cons_self⟩
    | false =>
      rw [e, if_neg Bool.false_ne_true] at h
      cases q : xs.findIdx? p with
      | none => rw [q] at h; cases h
      | some k =>
        rw [q] at h
        cases h
        obtain ⟨a, b⟩ := find_idx q
        rw [List.map_cons, e]
        exact ⟨by rw [List.idxOf_cons, a]; rfl, List.mem_cons_of_mem _ b⟩
/-- the name of the method of a list, of a tuple -/
def mtId : Mt → D → String
  | .index, .list _ => "list.index"
  | .index, _ => "tuple.index"
  | .count, .list _ => "list.count"
  | .count, _ => "tuple.count"
theorem c_mth (hu : X.A.units + 100 < cLine) {m : Mt} {dx : D} {v : V} {u : Value} {A : Addr → Prop} {Q : VK} {vs : List V} {us : List Value} {ds : List D} {E : Nat → List D → Prop} (I : Inv X pins σ H s) (ha : AOk A H) (hx : Rep0 A X.K H v dx) (rx : RelV v u)
    (hp : DAs A X.K H vs ds) (r : Vals vs us) (h : (mthD m dx ds).Sat (Wd X.K A H Q) E) : wpAny (model X.prog X.w) X.A (call (.builtin (mtId m dx)) (u :: us)) (EP X pins σ Q) X.xe s := by
  match m, ds, hp, h with
  | .index, [y], hp, h =>
    have h' : (match seqOf dx with
      | some xs => (match xs.findIdx? fun z => PyData.eqv z y with
        | some j => gd (inOk y xs) (.int j)
        | none => .bad)
      | none => M.bad).Sat (Wd X.K A H Q) E := h
    cases e1 : seqOf dx with
    | none => rw [e1] at h'; exact h'.elim
    | some xs =>
      rw [e1] at h'
      cases e2 : xs.findIdx? fun z => PyData.eqv z y with
      | none => simp only [e2] at h'; exact h'.elim
      | some j =>
        simp only [e2] at h'
        obtain ⟨ok, q⟩ := gd_sat h'
        obtain ⟨f1, f2⟩ := find_idx e2
        cases hp with
        | cons hy hn =>
          cases hn
          obtain ⟨u2, rfl, ry⟩ := vals1 r
          obtain ⟨bs, rd⟩ := Rep0.reads I (.inl hy) ry
          cases dx with
          | list zs =>
            cases e1
            obtain ⟨a, ws, rfl, hq, hr⟩ := hx.list
            cases rx
            obtain ⟨its, r', pl, hz⟩ := I.list hq
            refine SeqAt.call_list_index pl.isList (items_eq I r' hr rd ok (by show X.A.units + 1 + 90 < _; omega)) (by rw [List.length_map, ← hr.length]; exact hz) f2 ?_
            rw [f1]
            exact ⟨.int j, H, I.tok _, ⟨_, rfl⟩, wd_int ha q⟩
          | tuple zs =>
            cases e1
            obtain ⟨a, ws, rfl, hq, hr⟩ := hx.tuple
            cases rx
            obtain ⟨its, r', pl, hz⟩ := I.tuple hq.sq
            refine SeqAt.call_tuple_index pl (items_eq I r' hr rd ok (by show X.A.units + 1 + 90 < _; omega)) f2 ?_
            rw [f1]
            exact ⟨.int j, H, I.tok _, ⟨_, rfl⟩, wd_int ha q⟩
          | _ => cases e1
  | .count, [y], hp, h =>
    have h' : (match seqOf dx with
      | some xs => gd (inOk y xs) (.int (xs.countP fun z => PyData.eqv z y))
      | none => M.bad).Sat (Wd X.K A H Q) E := h
    cases e1 : seqOf dx with
    | none => rw [e1] at h'; exact h'.elim
    | some xs =>
      rw [e1] at h'
      obtain ⟨ok, q⟩ := gd_sat h'
      obtain ⟨h1, h2⟩ := ba ok
      cases hp with
      | cons hy hn =>
        cases hn
        obtain ⟨u2, rfl, ry⟩ := vals1 r
        obtain ⟨bs, rd⟩ := Rep0.reads I (.inl hy) ry
        cases dx with
        | list zs =>
          cases e1
          obtain ⟨a, ws, rfl, hq, hr⟩ := hx.list
          cases rx
          obtain ⟨its, r', pl, hz⟩ := I.list hq
          obtain ⟨as, rs⟩ := hr.reads I r'
          exact SeqAt.count_list_data pl.isList (by simpa using rs) rd (ba h1).2 (ba h1).1 (in_room hu h2) ⟨.int _, H, I.tok _, ⟨_, rfl⟩, wd_int ha q⟩
        | tuple zs =>
          cases e1
          obtain ⟨a, ws, rfl, hq, hr⟩ := hx.tuple
          cases rx
          obtain ⟨its, r', pl, hz⟩ := I.tuple hq.sq
          obtain ⟨as, rs⟩ := hr.reads I r'
          exact SeqAt.count_tuple_data pl (by simpa using rs) rd (ba h1).2 (ba h1).1 (in_room hu h2) ⟨.int _, H, I.tok _, ⟨_, rfl⟩, wd_int ha q⟩
        | _ => cases e1
  | .index, [], _, h => exact h.elim
  | .index, _ :: _ :: _, _, h => exact h.elim
  | .count, [], _, h => exact h.elim
  | .count, _ :: _ :: _, _, h => exact h.elim

theorem das_each {A : Addr → Prop} : ∀ {xs : List V} {its : List Value} {ds : List D}, Vals xs its → DAs A X.K H xs ds → W.EachIs (fun u d => ∃ v, RelV v u ∧ DA A X.K H v d) its ds
  | _, _, _, .nil, .nil => .nil
  | _, _, _, .cons r t, .cons a b => .cons ⟨_, r, a⟩ (das_each t b)
theorem each_das {A : Addr → Prop} : ∀ {its : List Value} {ds : List D}, W.EachIs (fun u d => ∃ v, RelV v u ∧ DA A X.K H v d) its ds → ∃ xs, Vals xs its ∧ DAs A X.K H xs ds
  | _, _, .nil => ⟨[], .nil, .nil⟩
  | _, _, .cons ⟨v, r, a⟩ t => by
    obtain ⟨xs, p, q⟩ := each_das t
    exact ⟨v :: xs, .cons r p, .cons a q⟩
theorem sort_ok {xs : List D} (h : sortOk xs = true) : W.AllAlike xs ∧ W.Sortable xs ∧ PyData.depthAll xs ≤ 64 ∧ xs.length ≤ sizeLine := by
  unfold sortOk at h
  obtain ⟨h, h4⟩ := ba h
  obtain ⟨h, h3⟩ := ba h
  obtain ⟨h1, h2⟩ := ba h
  refine ⟨alike_all h1, ?_, Nat.le_of_ble_eq_true h3, lim_le h4⟩
  rcases Bool.or_eq_true_iff.mp h2 with z | z
  · refine .inl fun d hd => ?_
    have q := List.all_eq_true.mp z d hd
    match d, q with
    | .tuple (x :: r), _ => exact ⟨x, r, rfl⟩
  · refine .inr fun d hd => ?_
    have q := ba (List.all_eq_true.mp z d hd)
    refine ⟨fun e => ?_, fun ys e => ?_⟩
    · subst e
      cases q.1
    · subst e
      cases q.2
mutual
theorem alike_eq : ∀ (x y : D), W.alike x y = true → PyData.eqv x y = true → x = y
  | .none, y, h, _ => by cases y <;> first | rfl | cases h
  | .bool a, y, h, e => by
    cases y with
    | bool b =>
      unfold PyData.eqv at e
      cases a <;> cases b <;> first | rfl | cases e
    | _ => cases h
  | .int a, y, h, e => by
    cases y with
    | int b =>
      unfold PyData.eqv at e
      have : a = b := by simpa using e
      rw [this]
    | _ => cases h
  | .str a, y, h, e => by
    cases y with
    | str b =>
      unfold PyData.eqv at e
      have : a = b := by simpa using e
      rw [this]
    | _ => cases h
  | .list xs, y, h, e => by
    cases y with
    | list ys =>
      unfold W.alike at h
      unfold PyData.eqv at e
      rw [alike_eqs xs ys h e]
    | _ => cases h
  | .tuple xs, y, h, e => by
    cases y with
    | tuple ys =>
      unfold W.alike at h
      unfold PyData.eqv at e
      rw [alike_eqs xs ys h e]
    | _ => cases h
  | .dict _, y, h, _ => by cases y <;> cases h
theorem alike_eqs : ∀ (xs ys : List D), W.alikeAll xs ys = true → PyData.eqvAll xs ys = true → xs = ys
  | [], [], _, _ => rfl
  | [], _ :: _, _, e => by simp [PyData.eqvAll] at e
  | _ :: _, [], _, e => by simp [PyData.eqvAll] at e
  | x :: xs, y :: ys, h, e => by
    obtain ⟨h1, h2⟩ := W.alike_all_cons h
    rw [W.eqv_all_cons] at e
    obtain ⟨e1, e2⟩ := ba e
    rw [alike_eq x y h1 e1, alike_eqs xs ys h2 e2]
end
/-- of two that can be compared, neither below the other: the same -/
theorem same_of {x y : D} (h : W.alike x y = true) (h1 : W.dataLt x y = false) (h2 : W.dataLt y x = false) : x = y := by
  have hk : W.keyToks x = W.keyToks y := (PyProof.Rows.listOrd PyProof.Rows.itemOrd).total _ _ h1 h2
  cases e : PyData.eqv x y with
  | true => exact alike_eq x y h e
  | false =>
    have z := (W.toks_eqv x y h).2 e [] [.inl 0]
    rw [hk, W.lex_pre] at z
    have z1 : PyProof.Rows.lexLt PyProof.Rows.itemOrd (W.keyToks y) (W.keyToks y) = false := (PyProof.Rows.listOrd PyProof.Rows.itemOrd).irrefl _
    rw [z1] at z
    cases z
theorem le_lt (a b : D) : (W.dataLe false id a b = true) = (W.dataLt b a = false) := by
  show ((!W.dataLt b a) = true) = _
  cases W.dataLt b a <;> simp
theorem ins_perm (x : D) : ∀ ys : List D, (insB x ys).Perm (x :: ys)
  | [] => .refl _
  | y :: ys => by
    unfold insB
    split
    · exact ((ins_perm x ys).cons y).trans (.swap x y ys)
    · exact .refl _
theorem sort_perm : ∀ xs : List D, (sortD xs).Perm xs
  | [] => .refl _
  | x :: xs => (ins_perm x (sortD xs)).trans ((sort_perm xs).cons x)
theorem le_tr (a b c : D) (h1 : W.dataLe false id a b = true) (h2 : W.dataLe false id b c = true) : W.dataLe false id a c = true := (W.sortLe_total (PyProof.Rows.listOrd PyProof.Rows.itemOrd) false fun b : D => W.keyToks (id b)).trans a b c h1 h2
theorem le_tot (a b : D) : (W.dataLe false id a b || W.dataLe false id b a) = true := by
  show ((!W.dataLt b a) || (!W.dataLt a b)) = true
  cases e1 : W.dataLt b a with
  | false => rfl
  | true =>
    cases e2 : W.dataLt a b with
    | false => rfl
    | true =>
      have z := (PyProof.Rows.listOrd PyProof.Rows.itemOrd).trans _ _ _ e1 e2
      have z1 := (PyProof.Rows.listOrd PyProof.Rows.itemOrd).irrefl (W.keyToks b)
      rw [z1] at z
      cases z
theorem ins_sorted (x : D) : ∀ {ys : List D}, ys.Pairwise (fun a b => W.dataLe false id a b = true) → (insB x ys).Pairwise (fun a b => W.dataLe false id a b = true)
  | [], _ => List.pairwise_singleton _ _
  | y :: ys, h => by
    obtain ⟨h1, h2⟩ := List.pairwise_cons.mp h
    unfold insB
    split
    · rename_i c
      refine List.pairwise_cons.mpr ⟨fun z hz => ?_, ins_sorted x h2⟩
      rcases List.mem_cons.mp ((ins_perm x ys).mem_iff.mp hz) with rfl | hz
      · have t := le_tot y z
        cases q : W.dataLe false id y z with
        | true => rfl
        | false =>
          have q2 : (!W.dataLt z y) = false := q
          have z3 := (PyProof.Rows.listOrd PyProof.Rows.itemOrd).trans _ _ _ c (show W.dataLt z y = true by simpa using q2)
          have z1 := (PyProof.Rows.listOrd PyProof.Rows.itemOrd).irrefl (W.keyToks y)
          rw [z1] at z3
          cases z3
      · exact h1 z hz
    · rename_i c
      have c2 : W.dataLe false id x y = true := by
        rw [le_lt]
        simpa using c
      refine List.pairwise_cons.mpr ⟨fun z hz => ?_, h⟩
      rcases List.mem_cons.mp hz with rfl | hz
      · exact c2
      · exact le_tr _ _ _ c2 (h1 z hz)
theorem sort_sorted : ∀ xs : List D, (sortD xs).Pairwise (fun a b => W.dataLe false id a b = true)
  | [] => .nil
  | x :: xs => ins_sorted x (sort_sorted xs)
theorem sort_eq {xs : List D} (h : W.AllAlike xs) : xs.mergeSort (W.dataLe false id) = sortD xs := by
  refine List.Perm.eq_of_pairwise (le := fun a b => W.dataLe false id a b = true) (fun a b ha hb h1 h2 => ?_) (List.pairwise_mergeSort le_tr le_tot xs) (sort_sorted xs) ((List.mergeSort_perm _ _).trans (sort_perm xs).symm)
  have ha := (List.mergeSort_perm _ _).mem_iff.mp ha
  have hb := (sort_perm xs).mem_iff.mp hb
  rw [le_lt] at h1 h2
  exact same_of (h a ha b hb) h2 h1
theorem c_sortedF (hu : X.A.units + 100 < cLine) : CallR X (.builtin "sorted") (rFs X.K (bltD .sorted)) := by
  intro pins s σ H vs us Q I r h
  obtain ⟨A, ds, E, ha, hp, h⟩ := h
  match ds, hp, h with
  | [.list ys], hp, h =>
    obtain ⟨v, rfl, hx⟩ := pair1 hp
    obtain ⟨u, rfl, rx⟩ := vals1 r
    obtain ⟨a, xs, rfl, hq, hr⟩ := hx.list
    cases rx
    obtain ⟨ok, q⟩ := gd_sat h
    obtain ⟨o1, o2, o3, o4⟩ := sort_ok ok
    obtain ⟨its, r', pl, hz⟩ := I.list hq
    have e1 := das_each r' hr
    refine W.sorted_data (R := fun u d => ∃ v, RelV v u ∧ DA A X.K H v d) (enc := id) (bs := ys) pl.isList e1 (e1.mono fun u d ⟨v, rv, hd⟩ => Rep0.reads I (.inl hd) rv) (by rw [List.map_id]; exact o1) (by rw [List.map_id]; exact o2) o4
      (fun b hb => by
        have hd : b.depth ≤ PyData.depthAll ys := by
          clear hr e1 ok q o1 o2 o3 o4 h hx hp
          induction ys with
          | nil => cases hb
          | cons z zs ih =>
            simp only [PyData.depthAll]
            rcases List.mem_cons.mp hb with e | e
            · subst e; omega
            · have := ih e; omega
        show X.A.units + 2 + b.depth < cLine
        omega) fun out hl eo => ?_
    rw [sort_eq o1] at eo
    obtain ⟨zs, rz, hzs⟩ := each_das eo
    obtain ⟨e, he⟩ := sortedAll_at s.heap its out.toArray
    have hf : H (s.heap.objs.size + 1) = none := I.hok.fresh (Nat.le_succ _)
    exact ⟨.ref (s.heap.objs.size + 1), _, I.laid (t' := s.toks) (o := .lst zs) (fun b o q => sortedAll_old q) (Nat.le_succ _) ⟨by rw [hzs.length, (sort_perm ys).length_eq]; exact o4, out, e, rz, he⟩, rfl, q _ zs _ rfl hf hzs⟩
  | [.none], _, h => exact h.elim
  | [.bool _], _, h => exact h.elim
  | [.int _], _, h => exact h.elim
  | [.str _], _, h => exact h.elim
  | [.tuple _], _, h => exact h.elim
  | [.dict _], _, h => exact h.elim
  | [], _, h => exact h.elim
  | a :: _ :: _, _, h => exact (by cases a <;> exact h.elim)

theorem dedI_mem {k : Int} : ∀ ns : List Int, k ∈ dedI ns ↔ k ∈ ns
  | [] => Iff.rfl
  | x :: r => by
    unfold dedI
    have ih := dedI_mem (k := k) r
    split
    · rename_i h
      rw [List.mem_cons, ih]
      refine ⟨.inr, fun z => ?_⟩
      rcases z with z | z
      · subst z
        exact ih.mp (by simpa using h)
      · exact z
    · rw [List.mem_cons, List.mem_cons, ih]
theorem dedI_nodup : ∀ ns : List Int, (dedI ns).Nodup
  | [] => List.nodup_nil
  | x :: r => by
    unfold dedI
    split
    · exact dedI_nodup r
    · rename_i h
      exact List.nodup_cons.mpr ⟨by simpa using h, dedI_nodup r⟩
theorem lenset_ok {a : Addr} {xs : List V} {ns : List Int} {Q : VK} (hc : X.calm = true) (I : Inv X pins σ H s) (hq : TupAt X.K H a xs) (e : xs = ns.map V.int) (hl : ns.length ≤ 60) (q : Q (.int (dedI ns).length) H) :
    wpAny (model X.prog X.w) X.A (call (.type "set") [.ref a]) (fun r s' => wpAny (model X.prog X.w) X.A (call (.builtin "len") [r]) (EP X pins σ Q) X.xe s') X.xe s := by
  subst e
  obtain ⟨its, r', pl, hz⟩ := I.tuple hq.sq
  refine call_set_tupI ns (I.ok.hd hc) pl (by simpa using r'.ints) (by unfold scanBound; omega) fun h' tk c hS hle kp => ?_
  obtain ⟨o, es, ep, t, ho, hex, hd, hg, hn, hm, hb, hf, hsz, _⟩ := hS
  have I2 : Inv X pins σ H { s with heap := h', toks := tk } := I.kept kp
  have hlen : es.size = (dedI ns).length := by
    have p : (es.toList.map keyOf).Perm (dedI ns) := by
      refine (List.perm_ext_iff_of_nodup hn (dedI_nodup ns)).mpr fun k => ?_
      rw [dedI_mem]
      have z := hm k
      rw [decide_eq_true_iff] at z
      exact z.symm
    have := p.length_eq
    rw [List.length_map, Array.length_toList] at this
    exact this
  refine call_len_set ho hex hd hf (by unfold scanBound at hb; omega) ⟨.int (es.size : Nat), H, I2.tok _, ⟨_, rfl⟩, ?_⟩
  rw [hlen]
  exact q
theorem c_int : CallR X (.type "int") (rDs X.K (bltD .int)) := by
  intro pins s σ H vs us Q I r h
  obtain ⟨A, ds, E, ha, hp, h⟩ := h
  match ds, hp, h with
  | [.int i], hp, h =>
    obtain ⟨v, rfl, hx⟩ := pair1 hp
    obtain rfl := hx.int
    exact call_int1 pins s σ H _ us Q I r (.inl ⟨i, rfl, wd_int ha h⟩)
  | [.bool b], hp, h =>
    obtain ⟨v, rfl, hx⟩ := pair1 hp
    obtain rfl := hx.bool
    exact call_int1 pins s σ H _ us Q I r (.inr ⟨b, rfl, wd_int ha h⟩)
  | [.none], _, h => exact h.elim
  | [.str _], _, h => exact h.elim
  | [.tuple _], _, h => exact h.elim
  | [.list _], _, h => exact h.elim
  | [.dict _], _, h => exact h.elim
  | [], _, h => exact h.elim
  | a :: _ :: _, _, h => exact (by cases a <;> exact h.elim)
theorem c_abs : CallR X (.builtin "abs") (rDs X.K (bltD .abs)) := by
  intro pins s σ H vs us Q I r h
  obtain ⟨A, ds, E, ha, hp, h⟩ := h
  match ds, hp, h with
  | [.int i], hp, h =>
    obtain ⟨v, rfl, hx⟩ := pair1 hp
    obtain rfl := hx.int
    exact call_abs pins s σ H _ us Q I r ⟨i, rfl, wd_int ha h⟩
  | [.bool b], hp, h => exact h.elim
  | [.none], _, h => exact h.elim
  | [.str _], _, h => exact h.elim
  | [.tuple _], _, h => exact h.elim
  | [.list _], _, h => exact h.elim
  | [.dict _], _, h => exact h.elim
  | [], _, h => exact h.elim
  | a :: _ :: _, _, h => exact (by cases a <;> exact h.elim)
theorem c_divmod : CallR X (.builtin "divmod") (rDs X.K (bltD .divmod)) := by
  intro pins s σ H vs us Q I r h
  obtain ⟨A, ds, E, ha, hp, h⟩ := h
  match ds, hp, h with
  | [.int i, .int j], hp, h =>
    obtain ⟨v, w, rfl, hx, hy⟩ := pair2 hp
    obtain rfl := hx.int
    obtain rfl := hy.int
    obtain ⟨hc, q⟩ := gd_sat (show (gd (decide (0 < j) && decide (j < 1073741824)) (.tuple [.int (i / j), .int (i % j)])).Sat _ _ from h)
    obtain ⟨h1, h2⟩ := ba hc
    have h1 := of_decide_eq_true h1
    have h2 := of_decide_eq_true h2
    obtain ⟨u, w', rfl, ⟨t, rfl⟩, ⟨t', rfl⟩⟩ := vals2 r
    refine divmod_int (by omega) ?_ (.inl (PyProof.noPylong_small (by omega)))
    rw [Int.fdiv_eq_ediv_of_nonneg i (by omega), Int.fmod_eq_emod_of_nonneg i (by omega)]
    have hf := I.hok.fresh (Nat.le_refl s.heap.objs.size)
    exact ⟨.ref s.heap.objs.size, _, tupNew (tk := s.toks + 2) (its := [.int (i / j) s.toks, .int (i % j) (s.toks + 1)]) (xs := [.int (i / j), .int (i % j)]) I (fun b o e => Heap.get?_push_of_some _ e) (Nat.le_refl _) (Heap.get?_push_size _ rfl) rfl rfl (.cons ⟨_, rfl⟩ (.cons ⟨_, rfl⟩ .nil)) (by rw [sizeLine_eq]; show 2 ≤ 16777216; decide), rfl,
      wd_tup ha q hf (by rfl) (.cons (.int _) (.cons (.int _) .nil))⟩
  | [], _, h => exact h.elim
  | [a], _, h => exact (by cases a <;> exact h.elim)
  | a :: b :: _ :: _, _, h => exact (by cases a <;> cases b <;> exact h.elim)
  | [.int _, .none], _, h => exact h.elim
  | [.int _, .bool _], _, h => exact h.elim
  | [.int _, .str _], _, h => exact h.elim
  | [.int _, .list _], _, h => exact h.elim
  | [.int _, .tuple _], _, h => exact h.elim
  | [.int _, .dict _], _, h => exact h.elim
  | [.none, _], _, h => exact h.elim
  | [.bool _, _], _, h => exact h.elim
  | [.str _, _], _, h => exact h.elim
  | [.list _, _], _, h => exact h.elim
  | [.tuple _, _], _, h => exact h.elim
  | [.dict _, _], _, h => exact h.elim
end
end Dv
end
section
namespace Dv
open PySem PySem.Spec PyProof.Rows L2

/-- plain parameters, no defaults -/
structure PlainPs (fd : FuncData) (ps : List Str) : Prop where
  po : fd.params.posonlyargs = []
  ar : fd.params.args.map (·.arg) = ps
  va : fd.params.vararg = none
  ko : fd.params.kwonlyargs = []
  kw : fd.params.kwarg = none
  df : fd.defaults = .none

theorem filter_zip {ps : List Str} {sl : List (Str × Value)} : ∀ {vs : List Value}, ps.map (fun p => sl.lookup p) = vs.map some → (ps.filterMap fun n => (sl.lookup n).map (n, ·)) = ps.zip vs := by
  induction ps with
  | nil =>
    intro vs h
    rfl
  | cons p r ih =>
    intro vs h
    cases vs with
    | nil => simp at h
    | cons v vs =>
      rw [List.map_cons, List.map_cons, List.cons.injEq] at h
      rw [List.filterMap_cons, h.1, List.zip_cons_cons]
      exact congrArg _ (ih h.2)

theorem kw_loop {ps : List Str} (f : Str × Value → List (Str × Value) × List (Str × Value) → Sem (ForInStep (List (Str × Value) × List (Str × Value))))
    (hf : ∀ x st, x.1 ∈ ps → st.1.lookup x.1 = none → f x st = pure (.yield (st.1 ++ [x], st.2))) : ∀ (kw sl : List (Str × Value)),
    (∀ (i : Nat) (h : i < kw.length), (kw[i]).1 ∈ ps ∧ (sl ++ kw.take i).lookup (kw[i]).1 = none) → forIn kw (sl, ([] : List (Str × Value))) f = pure (sl ++ kw, ([] : List (Str × Value)))
  | [], sl, _ => by
    rw [List.append_nil]
    rfl
  | x :: r, sl, h => by
    have h0 := h 0 (Nat.zero_lt_succ _)
    rw [List.take_zero, List.append_nil] at h0
    have ih := kw_loop f hf r (sl ++ [x]) fun i hi => by
      have := h (i + 1) (Nat.succ_lt_succ hi)
      rw [List.take_succ_cons] at this
      rw [List.append_assoc]
      exact this
    rw [List.forIn_cons, hf x (sl, []) h0.1 h0.2]
    show forIn r (sl ++ [x], []) f = _
    rw [ih, List.append_assoc]
    rfl
theorem bind_gen {fd : FuncData} {ps : List Str} {us : List Value} {kw : List (Str × Value)} {vs : List Value} (P : PlainPs fd ps) (hl : us.length ≤ ps.length) (hk : ∀ (i : Nat) (h : i < kw.length), (kw[i]).1 ∈ ps ∧ ((ps.zip us ++ kw.take i).lookup (kw[i]).1) = none)
    (hv : ps.map (fun p => (ps.zip us ++ kw).lookup p) = vs.map some) : bindArgs fd ⟨us, kw⟩ = pure (ps.zip vs) := by
  have hf := filter_zip hv
  have hm : (ps.filter fun n => ((ps.zip us ++ kw).lookup n).isNone) = [] := by
    rw [List.filter_eq_nil_iff]
    intro p hp
    have : (ps.zip us ++ kw).lookup p ∈ ps.map (fun p => (ps.zip us ++ kw).lookup p) := List.mem_map_of_mem hp
    rw [hv] at this
    obtain ⟨v, _, e⟩ := List.mem_map.mp this
    rw [← e]
    simp
  unfold bindArgs
  simp only [P.po, P.ar, P.va, P.ko, P.kw, P.df, List.map_nil, List.nil_append, List.append_nil]
  rw [kw_loop (ps := ps) _ (fun x st h1 h2 => by
    have e1 : (ps.contains x.1 || ([] : List Str).contains x.1) = true := by
      rw [List.contains_iff_mem.mpr h1]
      rfl
    rw [if_pos e1, h2]
    rfl) kw (ps.zip us) hk]
  have hs : seqItems? Value.none = pure none := rfl
  have hg : (decide (us.length > ps.length) && (none : Option Arg).isNone) = false := by
    rw [decide_eq_false (Nat.not_lt.mpr hl)]
    rfl
  rw [hs]
  simp only [pure_bind]
  rw [if_neg (by rw [hg]; exact Bool.false_ne_true)]
  have e0 : ((none : Option (Array Value)).getD #[]).toList.drop (((none : Option (Array Value)).getD #[]).toList.length - ps.length) = [] := by
    show ([] : List Value).drop (0 - ps.length) = []
    simp
  simp only [e0, List.length_nil, Nat.sub_zero, List.take_length, hm, List.isEmpty_nil, Bool.not_true]
  rw [if_neg Bool.false_ne_true]
  simp only [List.zip_nil_right, List.forIn_nil, pure_bind, List.isEmpty_nil, Bool.not_true, hf]
  rfl
end Dv
end
section
namespace Dv
open PySem PySem.Spec PyProof.Rows L2

theorem look_zip {k : Str} {w : Value} : ∀ {ks : List Str} {ws : List Value} {i : Nat}, ks.Nodup → ks[i]? = some k → ws[i]? = some w → (ks.zip ws).lookup k = some w
  | [], _, _, _, h, _ => by simp at h
  | _ :: _, [], _, _, _, h => by simp at h
  | a :: ks, b :: ws, 0, _, h1, h2 => by
    simp at h1 h2
    subst h1 h2
    simp [List.lookup]
  | a :: ks, b :: ws, i + 1, nd, h1, h2 => by
    have hn : a ≠ k := fun e => by
      subst e
      exact (List.nodup_cons.mp nd).1 (List.mem_of_getElem? (by simpa using h1))
    rw [List.zip_cons_cons, List.lookup_cons]
    have e : (k == a) = false := by simpa using Ne.symm hn
    rw [e]
    exact look_zip (i := i) (List.nodup_cons.mp nd).2 (by simpa using h1) (by simpa using h2)
theorem look_zip_none {k : Str} : ∀ {ks : List Str} {ws : List Value}, k ∉ ks.take ws.length → (ks.zip ws).lookup k = none
  | [], _, _ => by simp [List.lookup]
  | _ :: _, [], _ => by simp [List.lookup]
  | a :: ks, b :: ws, h => by
    rw [List.length_cons, List.take_succ_cons, List.mem_cons, not_or] at h
    rw [List.zip_cons_cons, List.lookup_cons]
    have e : (k == a) = false := by simpa using h.1
    rw [e]
    exact look_zip_none h.2
theorem seqO_get {α : Type} : ∀ {l : List (Option α)} {r : List α}, seqO l = some r → l = r.map some
  | [], r, h => by cases h; rfl
  | none :: _, _, h => by cases h
  | some a :: l, r, h => by
    unfold seqO at h
    cases q : seqO l with
    | none => rw [q] at h; cases h
    | some t =>
      rw [q] at h
      cases h
      rw [seqO_get q]
      rfl
theorem idxOf_some {k : Str} : ∀ {ks : List Str} {j : Nat}, ks.idxOf? k = some j → ks[j]? = some k := by
  intro ks j h
  have h2 : ks.findIdx? (· == k) = some j := h
  obtain ⟨hlt, hp, _⟩ := List.findIdx?_eq_some_iff_getElem.mp h2
  rw [List.getElem?_eq_getElem hlt]
  exact congrArg some (by simpa using hp)
structure PermOk (ps : List Str) (m : Nat) (ks : List Str) (pm : List Nat) : Prop where
  cnt : m + ks.length = ps.length
  nd : ps.Nodup
  kd : ks.Nodup
  mem : ∀ k ∈ ks, k ∈ ps ∧ k ∉ ps.take m
  len : pm.length = ps.length
  at_ : ∀ (j : Nat) (p : Str), ps[j]? = some p → ∃ i, pm[j]? = some i ∧ ((j < m ∧ i = j) ∨ (m ≤ j ∧ ∃ q, ks[q]? = some p ∧ i = m + q))
theorem perm_ok {ps : List Str} {m : Nat} {ks : List Str} {pm : List Nat} (h : permOf ps m ks = some pm) : PermOk ps m ks pm := by
  unfold permOf at h
  split at h
  · rename_i c
    obtain ⟨c1, c⟩ := ba c
    obtain ⟨c2, c⟩ := ba c
    obtain ⟨c3, c4⟩ := ba c
    have e := seqO_get h
    have el : pm.length = ps.length := by
      have := congrArg List.length e
      simpa using this.symm
    refine ⟨of_decide_eq_true c1, of_decide_eq_true c2, of_decide_eq_true c3, fun k hk => ?_, el, fun j p hp => ?_⟩
    · have z := ba (List.all_eq_true.mp c4 k hk)
      exact ⟨of_decide_eq_true z.1, by simpa using z.2⟩
    · have e2 := congrArg (fun l => l[j]?) e
      simp only [List.getElem?_map, List.getElem?_zipIdx, hp, Option.map_some] at e2
      cases q : pm[j]? with
      | none => rw [q] at e2; cases e2
      | some i =>
        rw [q] at e2
        simp only [Option.map_some, Option.some.injEq, Nat.zero_add] at e2
        refine ⟨i, rfl, ?_⟩
        by_cases hj : j < m
        · rw [if_pos hj] at e2
          exact .inl ⟨hj, (Option.some.inj e2).symm⟩
        · rw [if_neg hj] at e2
          cases q2 : ks.idxOf? p with
          | none => rw [q2] at e2; cases e2
          | some a =>
            rw [q2] at e2
            exact .inr ⟨Nat.le_of_not_lt hj, a, idxOf_some q2, (Option.some.inj e2).symm⟩
  · cases h
/-- the arguments in the parameters' order -/
def pickV {α : Type} (vs : List α) (pm : List Nat) : List α := pm.filterMap fun i => vs[i]?
theorem pickV_get {α : Type} {vs : List α} : ∀ {pm : List Nat}, (∀ i ∈ pm, i < vs.length) → ∀ j : Nat, (pickV vs pm)[j]? = (pm[j]?).bind fun i => vs[i]?
  | [], _, j => by simp [pickV]
  | i :: pm, h, j => by
    have hi := h i List.mem_cons_self
    have e : pickV vs (i :: pm) = vs[i] :: pickV vs pm := by
      unfold pickV
      rw [List.filterMap_cons, List.getElem?_eq_getElem hi]
    rw [e]
    cases j with
    | zero => simp [List.getElem?_eq_getElem hi]
    | succ j =>
      rw [List.getElem?_cons_succ, List.getElem?_cons_succ]
      exact pickV_get (fun i' h' => h i' (List.mem_cons_of_mem _ h')) j
theorem PermOk.bound {ps : List Str} {m : Nat} {ks : List Str} {pm : List Nat} (P : PermOk ps m ks pm) : ∀ i ∈ pm, i < m + ks.length := by
  intro i hi
  obtain ⟨j, hj⟩ := List.mem_iff_getElem?.mp hi
  have hl : j < ps.length := by
    rw [← P.len]
    exact (List.getElem?_eq_some_iff.mp hj).1
  obtain ⟨i', e, h⟩ := P.at_ j ps[j] (List.getElem?_eq_getElem hl)
  rw [hj] at e
  cases e
  rcases h with ⟨a, rfl⟩ | ⟨a, q, e, rfl⟩
  · omega
  · have := (List.getElem?_eq_some_iff.mp e).1
    omega
theorem pickV_len {α : Type} {vs : List α} {pm : List Nat} (h : ∀ i ∈ pm, i < vs.length) : (pickV vs pm).length = pm.length := by
  induction pm with
  | nil => rfl
  | cons i pm ih =>
    have hi := h i List.mem_cons_self
    have e : pickV vs (i :: pm) = vs[i] :: pickV vs pm := by
      unfold pickV
      rw [List.filterMap_cons, List.getElem?_eq_getElem hi]
    rw [e, List.length_cons, List.length_cons, ih fun i' h' => h i' (List.mem_cons_of_mem _ h')]
theorem binds_perm {fd : FuncData} {ps ks : List Str} {pm : List Nat} {us ws : List Value} (Pl : PlainPs fd ps) (P : PermOk ps us.length ks pm) (hw : ws.length = ks.length) : bindArgs fd ⟨us, ks.zip ws⟩ = pure (ps.zip (pickV (us ++ ws) pm)) := by
  have hb : ∀ i ∈ pm, i < (us ++ ws).length := fun i hi => by
    rw [List.length_append, hw]
    exact P.bound i hi
  refine bind_gen Pl (by have := P.cnt; omega) (fun i hi => ?_) ?_
  · have hi' : i < ks.length := by
      rw [List.length_zip] at hi
      omega
    have e : ((ks.zip ws)[i]).1 = ks[i] := by simp
    rw [e]
    obtain ⟨m1, m2⟩ := P.mem _ (List.getElem_mem hi')
    refine ⟨m1, ?_⟩
    rw [List.lookup_append, look_zip_none m2]
    have e2 : (ks.zip ws).take i = (ks.take i).zip (ws.take i) := by simp [List.zip, List.take_zipWith]
    rw [e2]
    refine look_zip_none fun hm => ?_
    have hm2 : ks[i] ∈ ks.take i := List.mem_of_mem_take hm
    obtain ⟨j, hj, e3⟩ := List.getElem_of_mem hm2
    rw [List.length_take] at hj
    rw [List.getElem_take] at e3
    have := (List.getElem_inj P.kd).mp e3
    omega
  · refine List.ext_getElem? fun j => ?_
    rw [List.getElem?_map, List.getElem?_map, pickV_get hb]
    cases q : ps[j]? with
    | none =>
      have : pm[j]? = none := by
        rw [List.getElem?_eq_none_iff] at q ⊢
        rw [P.len]
        exact q
      rw [this]
      rfl
    | some p =>
      obtain ⟨i, e, h⟩ := P.at_ j p q
      rw [e]
      show some ((ps.zip us ++ ks.zip ws).lookup p) = ((us ++ ws)[i]?).map some
      rcases h with ⟨hj, rfl⟩ | ⟨hj, a, ea, rfl⟩
      · rw [List.getElem?_append_left hj, List.getElem?_eq_getElem hj, List.lookup_append, look_zip P.nd q (List.getElem?_eq_getElem hj)]
        rfl
      · have ha : a < ws.length := by
          rw [hw]
          exact (List.getElem?_eq_some_iff.mp ea).1
        have hn : (ps.zip us).lookup p = none := look_zip_none (P.mem p (List.mem_of_getElem? ea)).2
        rw [List.getElem?_append_right (Nat.le_add_right _ _), Nat.add_sub_cancel_left, List.getElem?_eq_getElem ha, List.lookup_append, hn, look_zip P.kd ea (List.getElem?_eq_getElem ha)]
        rfl

/-- the def at f hands back what F tells -/
def FnG (P : Program) (w : World) (K : PySem.W.Frag) (mg : Str → Option Value) (base : Heap) (n : Nat) (f : Addr) (fd : FuncData) (ps : List Str) (F : List Val → M Val) : Prop :=
  ∀ (Ar : Around) (outer : List Env) (s : Shared) (H : Hp) (args : Args) (us : List Value) (vs : List V) (ds : List Val) (A : Addr → Prop) (Q : VK), Room n Ar → Ar.guards = some [] → Env0 P w K mg base Ar outer s H → BindsTo s fd args (ps.zip us) →
    Vals vs us → vs.length = ps.length → AOk A H → Reps A K H vs ds → (F ds).Sat (Wd K A H Q) (fun _ _ => False) → codeAny (model P w) Ar (.call (.ref f) args) (CR CX0 outer P w H s Q fun _ _ _ => False) s

section
variable {X : Cx} {C : EC} {pins : List (Addr × Obj)} {s : Shared} {σ : L2.St} {H : Hp}
theorem run_g {n : Nat} {f : Addr} {fd : FuncData} {ps ks : List Str} {pm : List Nat} {F : List Val → M Val} {A : Addr → Prop} {Q : VK} {us ws : List Value} {vs zs : List V} {ds : List Val} (G : FnG X.prog X.w X.K X.mg X.base n f fd ps F) (hr : Room n X.A)
    (hg : X.A.guards = some []) (Pl : PlainPs fd ps) (P : PermOk ps us.length ks pm) (hw : ws.length = ks.length) (I : Inv X pins σ H s) (r : Vals vs us) (rz : Vals zs ws) (ha : AOk A H) (hd : Reps A X.K H (pickV (vs ++ zs) pm) ds)
    (h : (F ds).Sat (Wd X.K A H Q) (fun _ _ => False)) : wpAny (model X.prog X.w) X.A (call (.ref f) us (ks.zip ws)) (EP X pins σ Q) X.xe s := by
  have rr := r.append rz
  have hb : ∀ i ∈ pm, i < (us ++ ws).length := fun i hi => by
    rw [List.length_append, hw]
    exact P.bound i hi
  have rp : Vals (pickV (vs ++ zs) pm) (pickV (us ++ ws) pm) := by
    generalize vs ++ zs = a at rr
    generalize us ++ ws = b at rr hb
    clear hd h P
    induction pm with
    | nil => exact .nil
    | cons i pm ih =>
      have hi := hb i List.mem_cons_self
      have hi' : i < a.length := by rw [rr.length]; exact hi
      obtain ⟨u, e, ru⟩ := rr.get (List.getElem?_eq_getElem hi')
      have e1 : pickV a (i :: pm) = a[i] :: pickV a pm := by
        unfold pickV
        rw [List.filterMap_cons, List.getElem?_eq_getElem hi']
      have e2 : pickV b (i :: pm) = u :: pickV b pm := by
        unfold pickV
        rw [List.filterMap_cons, e]
      rw [e1, e2]
      exact .cons ru (ih fun i' h' => hb i' (List.mem_cons_of_mem _ h'))
  have hl : (pickV (vs ++ zs) pm).length = ps.length := by
    rw [rp.length, pickV_len hb, P.len]
  refine wpAny_call (codeAny_mono (G X.A X.stack s H ⟨us, ks.zip ws⟩ _ _ ds A Q hr hg I.env0 (.of_eq (binds_perm Pl P hw)) rp hl ha hd h) fun r s' hq => ?_)
  cases r with
  | error e => exact False.elim hq
  | ok fl =>
    cases fl with
    | ret u => exact I.after hq
    | next => exact False.elim hq
    | brk => exact False.elim hq
    | cont => exact False.elim hq
theorem star_cons {e : Expr} {es : List Expr} {env : Env} (h : ∀ a p, e ≠ .Starred a p) : starEach (e :: es) env = (false, eval e env) :: starEach es env := by
  cases e <;> first | rfl | exact absurd rfl (h _ _)
/-- no star -/
def noStar : List Expr → Bool
  | [] => true
  | .Starred _ _ :: _ => false
  | _ :: r => noStar r
theorem noStar_head {e : Expr} {r : List Expr} (h : noStar (e :: r) = true) : ∀ a p, e ≠ .Starred a p := fun a p z => by
  subst z
  cases h
theorem noStar_tail {e : Expr} {r : List Expr} (h : noStar (e :: r) = true) : noStar r = true := by
  cases e <;> first | exact h | cases h
theorem plain_any {env : Env} {pos : Pos} : ∀ {es : List Expr}, noStar es = true → (backTo pos (starEach es env)).any (·.1) = false
  | [], _ => rfl
  | e :: r, h => by
    rw [star_cons (noStar_head h)]
    show (false || (backTo pos (starEach r env)).any (·.1)) = false
    rw [plain_any (noStar_tail h)]
    rfl
theorem kw_facts {env : Env} {pos : Pos} : ∀ {kws : List Keyword} {ks : List Str}, kwNames kws = some ks → (backToKw pos (keywordEach kws env)).all (·.1.isSome) = true ∧ (backToKw pos (keywordEach kws env)).filterMap (·.1) = ks ∧
    (backToKw pos (keywordEach kws env)).any (·.1.isNone) = false ∧ ks.length = kws.length
  | [], ks, h => by
    cases h
    exact ⟨rfl, rfl, rfl, rfl⟩
  | ⟨a, v, p⟩ :: r, ks, h => by
    have e := seqO_get (show seqO (a :: r.map fun k => k.arg) = some ks from h)
    cases ks with
    | nil => cases e
    | cons k ks =>
      rw [List.map_cons, List.cons.injEq] at e
      obtain ⟨rfl, e⟩ := e
      have h2 : kwNames r = some ks := by
        have z : seqO (some k :: r.map fun k => k.arg) = some (k :: ks) := h
        unfold seqO at z
        cases q : seqO (r.map fun k => k.arg) with
        | none => rw [q] at z; cases z
        | some t =>
          rw [q] at z
          have : t = ks := by simpa using z
          rw [← this]
          exact q
      obtain ⟨h3, h4, h5, h6⟩ := kw_facts (env := env) (pos := pos) h2
      refine ⟨?_, ?_, ?_, by rw [List.length_cons, List.length_cons, h6]⟩
      · show (true && (backToKw pos (keywordEach r env)).all (·.1.isSome)) = true
        rw [h3]
        rfl
      · show k :: (backToKw pos (keywordEach r env)).filterMap (·.1) = _
        rw [h4]
      · show (false || (backToKw pos (keywordEach r env)).any (·.1.isNone)) = false
        rw [h5]
        rfl
/-- f(..), positional arguments, then keywords -/
def tCallG (n : Nat) (m : Nat) (K : PySem.W.Frag) (pm : List Nat) (F : List Val → M Val) (t tk : TA) : TE := fun σ H Q => t σ H fun vs H1 => tk σ H1 fun zs H2 => vs.length = n ∧ zs.length = m ∧
  ∃ A ds, AOk A H2 ∧ Reps A K H2 (pickV (vs ++ zs) pm) ds ∧ (F ds).Sat (Wd K A H2 Q) (fun _ _ => False)
theorem pe_callG {n : Nat} {f : Addr} {fd : FuncData} {x : Str} {p pos : Pos} {ps ks : List Str} {pm : List Nat} {F : List Val → M Val} {es : List Expr} {kws : List Keyword} {t tk : TA} (G : FnG X.prog X.w X.K X.mg X.base n f fd ps F) (hr : Room n X.A)
    (hg : X.A.guards = some []) (hgl : Gl X x) (hdb : (x == ("__debug__" : Str)) = false) (hm : X.mg x = some (.ref f)) (hk : PySem.W.keepIn X.K (.ref f) = true) (Pl : PlainPs fd ps) (hks : kwNames kws = some ks) (P : PermOk ps es.length ks pm) (ns : noStar es = true) (hne : es ≠ [])
    (ha : PA X es t) (hkw : PK X kws tk) : PE X (.Call (.Name x p) es kws pos) (tCallG es.length kws.length X.K pm F t tk) := by
  refine ⟨fun pins s σ H Q I h => ?_⟩
  refine wpAny_Call_Name_kw (ld_glob I hgl hm ?_ hdb)
  obtain ⟨k1, k2, k3, k4⟩ := kw_facts (env := X.env) (pos := pos) hks
  cases es with
  | nil => exact absurd rfl hne
  | cons e es =>
    refine PySem.W.callWith_KW (h₀ := X.base) I.ok.mod.kin hk k1 (thn (ha.run pos pins s σ H _ I h) fun us s1 ⟨vs, H1, I1, r, q⟩ => ?_) (by rw [plain_any ns, k3]; rfl) (star_cons (noStar_head ns))
    refine thn (hkw.run pos pins s1 σ H1 _ I1 q) fun ws s2 ⟨zs, H2, I2, rz, l1, l2, A, ds, hA, hR, hS⟩ => ⟨I2.kIn, ?_⟩
    rw [k2, List.nil_append]
    have e1 : us.length = (e :: es).length := by rw [← r.length]; exact l1
    have e2 : ws.length = ks.length := by rw [← rz.length, l2, k4]
    exact run_g G hr hg Pl (by rw [e1]; exact P) e2 I2 r rz hA hR hS
theorem pe_callG0 {n : Nat} {f : Addr} {fd : FuncData} {x : Str} {p pos : Pos} {ps ks : List Str} {pm : List Nat} {F : List Val → M Val} {kws : List Keyword} {tk : TA} (G : FnG X.prog X.w X.K X.mg X.base n f fd ps F) (hr : Room n X.A)
    (hg : X.A.guards = some []) (hgl : Gl X x) (hdb : (x == ("__debug__" : Str)) = false) (hm : X.mg x = some (.ref f)) (hk : PySem.W.keepIn X.K (.ref f) = true) (Pl : PlainPs fd ps) (hks : kwNames kws = some ks) (P : PermOk ps 0 ks pm)
    (hkw : PK X kws tk) : PE X (.Call (.Name x p) [] kws pos) (tCallG 0 kws.length X.K pm F tNil tk) := by
  refine ⟨fun pins s σ H Q I h => ?_⟩
  refine wpAny_Call_Name_kw (ld_glob I hgl hm ?_ hdb)
  obtain ⟨k1, k2, k3, k4⟩ := kw_facts (env := X.env) (pos := pos) hks
  refine PySem.W.callWith_KW0 (h₀ := X.base) I.ok.mod.kin hk k1 ?_ (by rw [k3]; rfl)
  refine thn (hkw.run pos pins s σ H _ I h) fun ws s2 ⟨zs, H2, I2, rz, l1, l2, A, ds, hA, hR, hS⟩ => ⟨I2.kIn, ?_⟩
  rw [k2]
  have e2 : ws.length = ks.length := by rw [← rz.length, l2, k4]
  exact run_g (us := []) (vs := []) G hr hg Pl P e2 I2 .nil rz hA hR hS
end
end Dv
end
section
namespace Dv
open PySem PySem.Spec PyProof.Rows L2

theorem PE.imp {X : Cx} {e : Expr} {t t' : TE} (h : PE X e t) (i : ∀ σ H Q, t' σ H Q → t σ H Q) : PE X e t' := ⟨fun pins s σ H Q I q => h.run pins s σ H Q I (i _ _ _ q)⟩
theorem PT.imp {X : Cx} {e : Expr} {t t' : TT} (h : PT X e t) (i : ∀ σ H Q, t' σ H Q → t σ H Q) : PT X e t' := ⟨fun pins s σ H Q I q => h.run pins s σ H Q I (i _ _ _ q)⟩
theorem PW.imp {X : Cx} {e : Expr} {t t' : TT} (h : PW X e t) (i : ∀ σ H Q, t' σ H Q → t σ H Q) : PW X e t' := ⟨fun wh pins s σ H Q I q => h.run wh pins s σ H Q I (i _ _ _ q)⟩
theorem PA.imp {X : Cx} {es : List Expr} {t t' : TA} (h : PA X es t) (i : ∀ σ H Q, t' σ H Q → t σ H Q) : PA X es t' := ⟨fun pos pins s σ H Q I q => h.run pos pins s σ H Q I (i _ _ _ q)⟩
theorem PS.imp {X : Cx} {st : Stmt} {t t' : TS} (h : PS X st t) (i : ∀ D σ H, t' D σ H → t D σ H) : PS X st t' := ⟨fun pins s σ H D I q => h.run pins s σ H D I (i _ _ _ q)⟩
theorem PSs.imp {X : Cx} {st : List Stmt} {t t' : TS} (h : PSs X st t) (i : ∀ D σ H, t' D σ H → t D σ H) : PSs X st t' := ⟨fun pins s σ H D I q => h.run pins s σ H D I (i _ _ _ q)⟩

/-- a frame where no exception is let -/
def C0 (K : PySem.W.Frag) (H0 : Hp) : EC := ⟨K, H0, fun _ _ _ _ _ => False⟩
theorem xE_no {K : PySem.W.Frag} {H0 : Hp} {σ : L2.St} {A : Addr → Prop} {H : Hp} (ha : AOk A H) {c : Nat} {xs : List D} (h : xE (C0 K H0) σ A H c xs) : False := h A H (Grow.refl ha)
theorem sat_quiet {α : Type} {K : PySem.W.Frag} {H0 : Hp} {σ : L2.St} {A : Addr → Prop} {H : Hp} {m : M α} {Q : α → Prop} (ha : AOk A H) (h : m.Sat Q (xE (C0 K H0) σ A H)) : m.Sat Q (fun _ _ => False) := h.mono (fun _ q => q) fun _ _ z => xE_no ha z

section
variable {X : Cx} {H0 : Hp}
theorem asD_sat {v : Val} {Q : D → Prop} {E : Nat → List D → Prop} (h : v.asD.Sat Q E) : ∃ x, v = .d x ∧ Q x := by
  cases v with
  | d x => exact ⟨x, rfl, h⟩
  | _ => exact h.elim
theorem asB_sat {v : Val} {Q : Bool → Prop} {E : Nat → List D → Prop} (h : (asB v).Sat Q E) : ∃ x, v = .d (.bool x) ∧ Q x := by
  cases v with
  | d x =>
    cases x with
    | bool b => exact ⟨b, rfl, h⟩
    | _ => exact h.elim
  | _ => exact h.elim
theorem asI_sat {v : Val} {Q : Int → Prop} {E : Nat → List D → Prop} (h : (asI v).Sat Q E) : ∃ x, v = .d (.int x) ∧ Q x := by
  cases v with
  | d x =>
    cases x with
    | int b => exact ⟨b, rfl, h⟩
    | _ => exact h.elim
  | _ => exact h.elim

/-- a reading of data from one of values -/
theorem tD_tR {C : EC} {m : Rho → M Val} {σ : L2.St} {H : Hp} {Q : VK} (h : tR C (fun ρ => (m ρ).bind Val.asD) σ H Q) : tD C m σ H Q := by
  obtain ⟨A, ρ, env, hs⟩ := h
  rw [M.sat_bind] at hs
  refine ⟨A, ρ, env, hs.mono (fun v q A' w H' g r => ?_) fun _ _ z => z⟩
  obtain ⟨x, rfl, q⟩ := asD_sat q
  exact q A' w H' g (.inl r)
/-- .. as a test, where the value is a truth value -/
theorem tT_tD {C : EC} {m : Rho → M Val} {σ : L2.St} {H : Hp} {Q : Bool → Hp → Prop} (h : tT C (fun ρ => (m ρ).bind asB) σ H Q) : tB (tD C m) σ H Q := by
  obtain ⟨A, ρ, env, hs⟩ := h
  rw [M.sat_bind] at hs
  refine ⟨A, ρ, env, hs.mono (fun v q A' w H' g r => ?_) fun _ _ z => z⟩
  obtain ⟨x, rfl, q⟩ := asB_sat q
  cases r
  exact ⟨x, rfl, q A' H' g⟩

/-- two operands -/
theorem two_tR {C : EC} {ma mb : Rho → M D} {op : D → D → M Val} {σ : L2.St} {H : Hp} {Q : VK} (h : tD C (fun ρ => (ma ρ).bind fun x => (mb ρ).bind fun y => op x y) σ H Q) : tOp (rD2 C.K op) (tR C ma) (tR C mb) σ H Q := by
  obtain ⟨A, ρ, env, hs⟩ := h
  rw [M.sat_bind] at hs
  refine ⟨A, ρ, env, hs.mono (fun x hx A1 v H1 g1 r1 => ?_) fun _ _ z => z⟩
  rw [M.sat_bind] at hx
  refine ⟨A1, ρ, env.grow g1, hx.mono (fun y hy A2 w H2 g2 r2 => ?_) fun _ _ z => z.grow g1⟩
  exact ⟨A2, x, y, _, g2.ok, r1.grow g2, r2, hy.mono (fun d q A3 u H3 g3 r3 => q A3 u H3 ((g1.trans g2).trans g3) r3) fun _ _ z => z⟩
theorem one_tR {C : EC} {ma : Rho → M D} {op : D → M Val} {σ : L2.St} {H : Hp} {Q : VK} (h : tD C (fun ρ => (ma ρ).bind op) σ H Q) : tUn (rD1 C.K op) (tR C ma) σ H Q := by
  obtain ⟨A, ρ, env, hs⟩ := h
  rw [M.sat_bind] at hs
  refine ⟨A, ρ, env, hs.mono (fun x hx A1 v H1 g1 r1 => ?_) fun _ _ z => z⟩
  exact ⟨A1, x, _, g1.ok, r1, hx.mono (fun d q A3 u H3 g3 r3 => q A3 u H3 (g1.trans g3) r3) fun _ _ z => z⟩
/-- a fresh list -/
def tF (C : EC) (m : Rho → M Val) : TE := fun σ H Q => ∃ A ρ, EnvR C A H σ ρ ∧ (m ρ).Sat (fun d => ∀ A' a xs ds H', Grow A H A' H' → d = .d (.list ds) → H a = none → ¬ A' a → H' a = some (.lst xs) → DAs A' C.K H' xs ds → Q (.ref a) H') (xE C σ A H)
theorem tF_tD {C : EC} {m : Rho → M Val} {σ : L2.St} {H : Hp} {Q : VK} (h : tD C m σ H Q) : tF C m σ H Q := by
  obtain ⟨A, ρ, env, hs⟩ := h
  refine ⟨A, ρ, env, hs.mono (fun d q A' a xs ds H' g e hn na ha hd => ?_) fun _ _ z => z⟩
  subst e
  refine q (fun b => A' b ∨ b = a) (.ref a) H' ⟨g.same, fun b hb => .inl (g.sub b hb), fun b hb => ?_, fun b hb => ?_⟩ ?_
  · rcases hb with hb | rfl
    · exact g.new b hb
    · exact .inr hn
  · rcases hb with hb | rfl
    · exact g.ok b hb
    · exact ⟨_, ha⟩
  · exact DA.lst (.mk (.inr rfl) (.inl ha)) (DAs.mono (fun b hb => .inl hb) (fun _ _ _ q => q) (fun _ _ q => q) _ _ hd)

structure SX (X : Cx) (tc : TC) (n : Nat) (call : CallT) : Prop where
  N : X.N = tc.N
  nd : X.N.Nodup
  dbg : ∀ x ∈ tc.N, (x == ("__debug__" : Str)) = false ∧ (x == ("__classdict__" : Str)) = false
  sc : X.env.scope = tc.sc
  calm : X.calm = true
  room : Room n X.A
  gu : X.A.guards = some []
  pass : PassesOwn (model X.prog X.w) X.A X.env X.xe
  free : ∀ x : Str, x ∈ (["len", "tuple", "list", "sorted", "min", "max", "all", "any", "sum", "repr", "abs", "divmod", "isinstance", "set", "range", "int", "bool", "str"] : List Str) → tc.fns.lookup x = none → X.mg x = none
  cons : ∀ x d, tc.cons.lookup x = some d → ∃ u v, (x == ("__debug__" : Str)) = false ∧ X.mg x = some u ∧ RelV v u ∧ ∀ A H, DA A X.K H v d
  fn : ∀ x k ps, tc.fns.lookup x = some (k, ps) → ∃ f fd, (x == ("__debug__" : Str)) = false ∧ X.mg x = some (.ref f) ∧ PySem.W.keepIn X.K (.ref f) = true ∧ PlainPs fd ps ∧ FnG X.prog X.w X.K X.mg X.base n f fd ps (call k)
theorem SX.hu {tc : TC} {n : Nat} {call : CallT} (S : SX X tc n call) : X.A.units + 100 < cLine := by
  have := S.room.un
  omega
theorem SX.gl {tc : TC} {n : Nat} {call : CallT} (S : SX X tc n call) {x : Str} (h : isGlob tc x = true) : Gl X x := by
  show X.env.scope.names.lookup x = _
  rw [S.sc]
  exact of_decide_eq_true h
theorem SX.slot {tc : TC} {n : Nat} {call : CallT} (S : SX X tc n call) {x : Str} {i : Nat} (h : slotOf tc x = some i) : X.N[i]? = some x ∧ Vis X.env.scope x ∧ (x == ("__debug__" : Str)) = false ∧ (x == ("__classdict__" : Str)) = false := by
  have key : tc.N.idxOf? x = some i → tc.N[i]? = some x ∧ (x == ("__debug__" : Str)) = false ∧ (x == ("__classdict__" : Str)) = false := fun e => ⟨idxOf_some e, S.dbg x (List.mem_of_getElem? (idxOf_some e))⟩
  unfold slotOf at h
  rw [S.N]
  unfold Vis
  rw [S.sc]
  cases e : tc.sc.names.lookup x with
  | none => rw [e] at h; cases h
  | some k =>
    rw [e] at h
    cases k with
    | «local» => exact ⟨(key h).1, .inl rfl, (key h).2⟩
    | cell => exact ⟨(key h).1, .inr (.inl rfl), (key h).2⟩
    | free => exact ⟨(key h).1, .inr (.inr rfl), (key h).2⟩
    | _ => cases h

theorem pe_slot {C : EC} {i : Nat} {x : Str} {pos : Pos} (hN : X.N[i]? = some x) (hv : Vis X.env.scope x) (hd : (x == ("__debug__" : Str)) = false) (hcd : (x == ("__classdict__" : Str)) = false) : PE X (.Name x pos) (tD C fun ρ => getV ρ i) := by
  refine PE.imp (pe_var hN hv hd hcd) fun σ H Q h => ?_
  obtain ⟨A, ρ, env, hs⟩ := h
  have hs : (getV ρ i).Sat _ _ := hs
  unfold getV at hs
  split at hs
  · rename_i x e
    obtain ⟨v, e1, r⟩ := env.at_ i _ e
    exact ⟨v, e1, hs A v H (Grow.refl env.aok) r⟩
  · exact hs.elim
theorem pe_slotR {C : EC} {i : Nat} {x : Str} {pos : Pos} (hN : X.N[i]? = some x) (hv : Vis X.env.scope x) (hd : (x == ("__debug__" : Str)) = false) (hcd : (x == ("__classdict__" : Str)) = false) : PE X (.Name x pos) (tR C fun ρ => (getR ρ i).bind Val.asD) := by
  refine PE.imp (pe_var hN hv hd hcd) fun σ H Q h => ?_
  obtain ⟨A, ρ, env, hs⟩ := h
  rw [M.sat_bind] at hs
  unfold getR at hs
  split at hs
  · rename_i x e
    obtain ⟨v, e1, r⟩ := env.at_ i _ e
    obtain ⟨d, rfl, q⟩ := asD_sat hs
    exact ⟨v, e1, q A v H (Grow.refl env.aok) (.inl r)⟩
  · rename_i x e
    obtain ⟨v, e1, a, xs, ds, rfl, rfl, h1, h2, _⟩ := env.at_ i _ e
    exact ⟨_, e1, hs A _ H (Grow.refl env.aok) (.inr ⟨a, xs, ds, rfl, rfl, h1, h2⟩)⟩
  · exact hs.elim
end
end Dv
end
section
namespace Dv
open PySem PySem.Spec PyProof.Rows L2

section
variable {X : Cx} {C : EC} {A A' : Addr → Prop} {H H' : Hp} {σ : L2.St} {ρ : Rho}
theorem EnvR.lt (env : EnvR C A H σ ρ) {i : Nat} {s : Slot} (e : ρ[i]? = some (some s)) : i < σ.length := by
  rw [env.len]
  exact (List.getElem?_eq_some_iff.mp e).1
theorem EnvR.setV (env : EnvR C A H σ ρ) {i : Nat} {v : V} {x : Val} (r : Rep A C.K H v x) : EnvR C A H (σ.set i (some v)) (ρ.set i (some (.v x))) := by
  have key : ∀ {j : Nat} {s : Slot}, (ρ.set i (some (.v x)))[j]? = some (some s) → (j = i ∧ s = .v x ∧ i < ρ.length) ∨ (j ≠ i ∧ ρ[j]? = some (some s)) := by
    intro j s e
    by_cases h : i = j
    · subst h
      by_cases hl : i < ρ.length
      · rw [List.getElem?_set_self hl] at e
        cases e
        exact .inl ⟨rfl, rfl, hl⟩
      · rw [List.getElem?_eq_none (by simpa using hl)] at e
        cases e
    · rw [List.getElem?_set_ne h] at e
      exact .inr ⟨Ne.symm h, e⟩
  refine ⟨env.aok, by rw [List.length_set, List.length_set, env.len], fun j s e => ?_, fun j k y z a hjk e1 e2 e3 => ?_⟩
  · rcases key e with ⟨rfl, rfl, hl⟩ | ⟨hn, e⟩
    · exact ⟨v, by rw [List.getElem?_set_self (by rw [env.len]; exact hl)], r⟩
    · obtain ⟨w, e1, q⟩ := env.at_ j s e
      exact ⟨w, by rw [List.getElem?_set_ne (Ne.symm hn)]; exact e1, q⟩
  · rcases key e1 with ⟨_, q, _⟩ | ⟨h1, e1⟩
    · cases q
    · rcases key e2 with ⟨_, q, _⟩ | ⟨h2, e2⟩
      · cases q
      · rw [List.getElem?_set_ne (Ne.symm h1)] at e3
        rw [List.getElem?_set_ne (Ne.symm h2)]
        exact env.apart j k y z a hjk e1 e2 e3
theorem EnvR.drop1 (env : EnvR C A H σ ρ) {i : Nat} : EnvR C A H (σ.set i none) (ρ.set i none) := by
  have key : ∀ {j : Nat} {s : Slot}, (ρ.set i none)[j]? = some (some s) → j ≠ i ∧ ρ[j]? = some (some s) := by
    intro j s e
    by_cases h : i = j
    · subst h
      by_cases hl : i < ρ.length
      · rw [List.getElem?_set_self hl] at e
        cases e
      · rw [List.getElem?_eq_none (by simpa using hl)] at e
        cases e
    · rw [List.getElem?_set_ne h] at e
      exact ⟨Ne.symm h, e⟩
  refine ⟨env.aok, by rw [List.length_set, List.length_set, env.len], fun j s e => ?_, fun j k y z a hjk e1 e2 e3 => ?_⟩
  · obtain ⟨hn, e⟩ := key e
    obtain ⟨w, e1, q⟩ := env.at_ j s e
    exact ⟨w, by rw [List.getElem?_set_ne (Ne.symm hn)]; exact e1, q⟩
  · obtain ⟨h1, e1⟩ := key e1
    obtain ⟨h2, e2⟩ := key e2
    rw [List.getElem?_set_ne (Ne.symm h1)] at e3
    rw [List.getElem?_set_ne (Ne.symm h2)]
    exact env.apart j k y z a hjk e1 e2 e3
theorem EnvR.wiped (env : EnvR C A H σ ρ) : ∀ vs : List Nat, EnvR C A H (wipe σ vs) (wipeD ρ vs)
  | [] => env
  | i :: r => (EnvR.wiped env r).drop1

theorem wipe_set {i : Nat} {v : Option V} : ∀ {vs : List Nat} {τ : L2.St}, i ∈ vs → wipe (τ.set i v) vs = wipe τ vs
  | [], _, h => by cases h
  | j :: r, τ, h => by
    show (wipe (τ.set i v) r).set j none = (wipe τ r).set j none
    by_cases e : i ∈ r
    · rw [wipe_set e]
    · rcases List.mem_cons.mp h with rfl | h
      · refine List.ext_getElem? fun k => ?_
        by_cases hk : i = k
        · subst hk
          by_cases hl : i < τ.length
          · rw [List.getElem?_set_self (by rw [wipe_length, List.length_set]; exact hl), List.getElem?_set_self (by rw [wipe_length]; exact hl)]
          · rw [List.getElem?_eq_none (by rw [List.length_set, wipe_length, List.length_set]; omega), List.getElem?_eq_none (by rw [List.length_set, wipe_length]; omega)]
        · rw [List.getElem?_set_ne hk, List.getElem?_set_ne hk]
          clear h e
          induction r with
          | nil => exact List.getElem?_set_ne hk
          | cons a r ih =>
            show ((wipe (τ.set i v) r).set a none)[k]? = ((wipe τ r).set a none)[k]?
            by_cases ha : a = k
            · subst ha
              by_cases hl : a < τ.length
              · rw [List.getElem?_set_self (by rw [wipe_length, List.length_set]; exact hl), List.getElem?_set_self (by rw [wipe_length]; exact hl)]
              · rw [List.getElem?_eq_none (by rw [List.length_set, wipe_length, List.length_set]; omega), List.getElem?_eq_none (by rw [List.length_set, wipe_length]; omega)]
            · rw [List.getElem?_set_ne ha, List.getElem?_set_ne ha]
              exact ih
      · exact absurd h e
def tG (C : EC) (tg : Tg) : TG := fun v σ H Q => ∃ A ρ x, EnvR C A H σ ρ ∧ DA A C.K H v x ∧ (asgD tg x ρ).Sat (fun ρ2 => ∀ σ2, EnvR C A H σ2 ρ2 → (∀ vs, (∀ i ∈ tgSlots tg, i ∈ vs) → wipe σ2 vs = wipe σ vs) → Q σ2 H) (fun _ _ => False)
theorem PG.imp {e : Expr} {t t' : TG} (h : PG X e t) (i : ∀ v σ H Q, t' v σ H Q → t v σ H Q) : PG X e t' := ⟨fun pins s σ H v u Q I r q => h.run pins s σ H v u Q I r (i _ _ _ _ q)⟩
theorem pg_nm {i : Nat} {x : Str} {pos : Pos} (hN : X.N.Nodup) (hi : X.N[i]? = some x) (hx : Loc X.env.scope x) (hf : X.fn x = true ∨ X.env.scope.names.lookup x = some .local) : PG X (.Name x pos) (tG C (.nm i)) := by
  refine PG.imp (pg_name hN hi hx hf) fun v σ H Q h => ?_
  obtain ⟨A, ρ, y, env, hd, hs⟩ := h
  exact hs _ (env.setV (x := .d y) hd) fun vs hv => wipe_set (hv i List.mem_cons_self)
/-- the names of a target in a row -/
def gNames : List Nat → TGs
  | [] => gNil
  | i :: r => gCons (gName i) (gNames r)
theorem names_ok {is : List Nat} : ∀ {vs : List V} {xs : List D} {σ : L2.St} {ρ : Rho} {Q : L2.St → Hp → Prop}, EnvR C A H σ ρ → DAs A C.K H vs xs → is.length = xs.length →
    (∀ σ2, EnvR C A H σ2 ((is.zip xs).foldl (fun ρ p => ρ.set p.1 (some (.v (.d p.2)))) ρ) → (∀ ws, (∀ i ∈ is, i ∈ ws) → wipe σ2 ws = wipe σ ws) → Q σ2 H) → gNames is vs σ H Q := by
  induction is with
  | nil =>
    intro vs xs σ ρ Q env hd hl h
    cases xs with
    | nil =>
      cases hd
      exact ⟨rfl, h σ env fun _ _ => rfl⟩
    | cons _ _ => simp at hl
  | cons i r ih =>
    intro vs xs σ ρ Q env hd hl h
    cases xs with
    | nil => simp at hl
    | cons x xs =>
      cases hd with
      | cons a b =>
        refine ⟨_, _, rfl, ih (env.setV (x := .d x) a) b (by simpa using hl) fun σ2 e2 w2 => h σ2 e2 fun ws hw => ?_⟩
        rw [w2 ws fun j hj => hw j (List.mem_cons_of_mem _ hj), wipe_set (hw i List.mem_cons_self)]
theorem slot_loc {n : Nat} {call : CallT} {tc : TC} (S : SX X tc n call) {x : Str} {i : Nat} (h : slotOf tc x = some i) : Vis X.env.scope x := (S.slot h).2.1

structure Walk (K : PySem.W.Frag) (J : It) (A : Addr → Prop) (Stay : Hp → Prop) (H : Hp) (xs : List D) : Prop where
  ex : ∃ vs : List V, DAs A K H vs xs ∧ (∀ (i : Nat) (H' : Hp), Stay H' → i < xs.length → J.go i H') ∧ (∀ H', Stay H' → J.stop xs.length H') ∧ ∀ (i : Nat) (H' : Hp) (x : V) (H2 : Hp), Stay H' → i < xs.length → J.yld i H' x H2 → H2 = H' ∧ vs[i]? = some x
/-- through statements: what lies in A and what is known for good -/
structure Keep (A : Addr → Prop) (H H' : Hp) : Prop where
  lst : ∀ a o, A a → H a = some o → H' a = some o
  frz : ∀ a o u, H a = some (.frz o u) → H' a = some (.frz o u)
theorem Keep.refl : Keep A H H := ⟨fun _ _ _ e => e, fun _ _ _ e => e⟩
theorem Keep.of_grow (g : Grow A H A' H') : Keep A H H' := ⟨fun _ _ _ e => g.same _ _ e, fun _ _ _ e => g.same _ _ e⟩
theorem Keep.trans {H2 : Hp} (a : Keep A H H') (s : ∀ x, A x → A' x) (b : Keep A' H' H2) : Keep A H H2 := ⟨fun x o h e => b.lst x o (s x h) (a.lst x o h e), fun x o u e => b.frz x o u (a.frz x o u e)⟩
def tIx (C : EC) (Stay : (Addr → Prop) → Hp → Hp → Prop) (m : Rho → M (List D)) : TI := fun σ H R => ∃ A ρ, EnvR C A H σ ρ ∧ (m ρ).Sat (fun xs => ∀ A' H' J, Grow A H A' H' → Walk C.K J A' (Stay A' H') H' xs → R J H') (xE C σ A H)
theorem walk_lst {K : PySem.W.Frag} {Stay : Hp → Prop} {a : Addr} {vs : List V} {xs : List D} (h : DAs A K H vs xs) (st : ∀ H', Stay H' → SqL K H' a vs) : Walk K (Itl K a) A Stay H xs :=
  ⟨vs, h, fun i H' s hi => ⟨vs, vs[i]'(by rw [h.length]; exact hi), st H' s, List.getElem?_eq_getElem _⟩, fun H' s => ⟨vs, st H' s, by rw [h.length]; exact Nat.le_refl _⟩, fun i H' x H2 s hi y => ⟨y.1, y.2 vs (st H' s)⟩⟩
theorem walk_tup {K : PySem.W.Frag} {Stay : Hp → Prop} {a : Addr} {vs : List V} {xs : List D} (h : DAs A K H vs xs) (st : ∀ H', Stay H' → SqT K H' a vs) : Walk K (Itt K a) A Stay H xs :=
  ⟨vs, h, fun i H' s hi => ⟨vs, vs[i]'(by rw [h.length]; exact hi), st H' s, List.getElem?_eq_getElem _⟩, fun H' s => ⟨vs, st H' s, by rw [h.length]; exact Nat.le_refl _⟩, fun i H' x H2 s hi y => ⟨y.1, y.2 vs (st H' s)⟩⟩
theorem das_rng {K : PySem.W.Frag} (lo : Int) : ∀ (l : List Nat), DAs A K H (l.map fun k => V.int (lo + (k : Nat))) (l.map fun k => PyData.int (lo + (k : Nat)))
  | [] => .nil
  | _ :: r => .cons (.int _) (das_rng lo r)
theorem walk_rng {K : PySem.W.Frag} {Stay : Hp → Prop} {lo hi : Int} : Walk K (Itr lo (hi - lo).toNat) A Stay H (rngD lo hi) := by
  have hl : (rngD lo hi).length = (hi - lo).toNat := by simp [rngD]
  refine ⟨_, das_rng lo _, fun i H' _ h => by rw [hl] at h; exact h, fun H' _ => by rw [hl]; exact Nat.le_refl _, fun i H' x H2 _ h y => ⟨y.1, ?_⟩⟩
  rw [hl] at h
  rw [List.getElem?_map, List.getElem?_range h, y.2]
  rfl
theorem PI.imp {tg e : Expr} {t t' : TI} (h : PI X tg e t) (i : ∀ σ H R, t' σ H R → t σ H R) : PI X tg e t' := ⟨fun pins s σ H R I q => h.run pins s σ H R I (i _ _ _ q)⟩
/-- a list or a tuple -/
def iSeq (K : PySem.W.Frag) (tl : TE) : TI := fun σ H R => tl σ H fun x H1 => ∃ a, x = .ref a ∧ (((∃ xs, SqL K H1 a xs) ∧ R (Itl K a) H1) ∨ ((∃ xs, SqT K H1 a xs) ∧ R (Itt K a) H1))
theorem pi_seq {tg l : Expr} {tl : TE} (hl : PE X l tl) : PI X tg l (iSeq X.K tl) := by
  refine ⟨fun pins s σ H R I h => ?_⟩
  refine thn (hl.run pins s σ H _ I h) fun v s1 ⟨x, H1, I1, r1, a, e, q⟩ => ?_
  subst e
  cases r1
  have fr := I1.fpOk (Nat.le_refl _) (I1.hok.fresh (Nat.le_refl s1.heap.objs.size))
  have one : ∀ b ∈ [s1.heap.objs.size], FpOk X pins H1 b := fun b hb => by
    rw [List.mem_singleton] at hb
    rw [hb]
    exact fr
  rcases q with ⟨⟨xs, hq⟩, q⟩ | ⟨⟨xs, hq⟩, q⟩
  · obtain ⟨its, _, p, _⟩ := I1.list hq
    refine wpAny_pyIter_list p.isList ⟨_, [s1.heap.objs.size], _, _, H1, rfl, ?_, turn_list a _, ⟨_, Heap.get?_push_size _ rfl, rfl, rfl⟩, one, q⟩
    exact I1.kept (t' := s1.toks) fun b o e => Heap.get?_push_of_some _ e
  · obtain ⟨its, _, p, _⟩ := I1.tuple hq
    refine wpAny_pyIter_tuple (show s1.heap.IsTuple a its.toArray from p) ⟨_, [s1.heap.objs.size], _, _, H1, rfl, ?_, turn_tuple a _, ⟨_, Heap.get?_push_size _ rfl, rfl, rfl⟩, one, q⟩
    exact I1.kept (t' := s1.toks) fun b o e => Heap.get?_push_of_some _ e
theorem iter_sat {x : D} {Q : List D → Prop} {E : Nat → List D → Prop} (h : (iterD x).Sat Q E) : ∃ xs, seqOf x = some xs ∧ Q xs := by
  cases x with
  | list xs => exact ⟨xs, rfl, h⟩
  | tuple xs => exact ⟨xs, rfl, h⟩
  | _ => exact h.elim
/-- in a comprehension -/
theorem pi_seqC {tg l : Expr} {m : Rho → M D} (hC : C.K = X.K) (hl : PE X l (tR C m)) : PI X tg l (tIx C (fun _ H => Same H) fun ρ => (m ρ).bind iterD) := by
  refine PI.imp (pi_seq hl) fun σ H R h => ?_
  obtain ⟨A, ρ, env, hs⟩ := h
  rw [M.sat_bind] at hs
  refine ⟨A, ρ, env, hs.mono (fun x hx A' v H' g r => ?_) fun _ _ z => z⟩
  obtain ⟨xs, e, q⟩ := iter_sat hx
  cases x with
  | list ys =>
    cases e
    obtain ⟨a, vs, rfl, hq, hr⟩ := r.list
    exact ⟨a, rfl, .inl ⟨⟨vs, hC ▸ hq⟩, hC ▸ q A' H' (Itl C.K a) g (walk_lst hr fun H2 s => hq.elim (fun hq => .inl (Rd.same s hq)) .inr)⟩⟩
  | tuple ys =>
    cases e
    obtain ⟨a, vs, rfl, hq, hr⟩ := r.tuple
    exact ⟨a, rfl, .inr ⟨⟨vs, hC ▸ hq.sq⟩, hC ▸ q A' H' (Itt C.K a) g (walk_tup hr fun H2 s => (hq.keep fun o e => s _ _ e).sq)⟩⟩
  | _ => cases e
/-- in a for statement -/
theorem pi_seqL {tg l : Expr} {m : Rho → M Val} (hC : C.K = X.K) (hl : PE X l (tD C m)) : PI X tg l (tIx C Keep fun ρ => ((m ρ).bind Val.asD).bind iterD) := by
  refine PI.imp (pi_seq hl) fun σ H R h => ?_
  obtain ⟨A, ρ, env, hs⟩ := h
  have hs : (((m ρ).bind Val.asD).bind iterD).Sat _ _ := hs
  rw [M.bind_assoc, M.sat_bind] at hs
  refine ⟨A, ρ, env, hs.mono (fun x hx A' v H' g r => ?_) fun _ _ z => z⟩
  rw [M.sat_bind] at hx
  obtain ⟨x, rfl, hx⟩ := asD_sat hx
  obtain ⟨xs, e, q⟩ := iter_sat hx
  cases x with
  | list ys =>
    cases e
    cases r with
    | lst hl hr =>
      refine ⟨_, rfl, .inl ⟨⟨_, hC ▸ hl.sq⟩, hC ▸ q A' H' (Itl C.K _) g (walk_lst hr fun H2 s => ?_)⟩⟩
      rcases hl with ⟨ha, hq | ⟨o, hq⟩⟩ | hl
      · exact .inl (.inl (s.lst _ _ ha hq))
      · exact .inl (.inr ⟨o, s.frz _ _ _ hq⟩)
      · exact (LstAt.sq (A := A') (.inr hl))
  | tuple ys =>
    cases e
    cases r with
    | tup hq hr => exact ⟨_, rfl, .inr ⟨⟨_, hC ▸ hq.sq⟩, hC ▸ q A' H' (Itt C.K _) g (walk_tup hr fun H2 s => (hq.keep fun o e => s.frz _ _ _ e).sq)⟩⟩
  | _ => cases e
theorem int_one {C : EC} {m : Rho → M Val} {σ : L2.St} {H : Hp} {Q : List V → Hp → Prop} (h : ∃ A ρ, EnvR C A H σ ρ ∧ ((m ρ).bind asI).Sat (fun n => ∀ A' H', Grow A H A' H' → Q [.int n] H') (xE C σ A H)) : tCons (tD C m) tNil σ H Q := by
  obtain ⟨A, ρ, env, hs⟩ := h
  rw [M.sat_bind] at hs
  refine ⟨A, ρ, env, hs.mono (fun x hx A' v H' g r => ?_) fun _ _ z => z⟩
  obtain ⟨n, rfl, q⟩ := asI_sat hx
  cases r
  exact q A' H' g
theorem pi_rngD {tg a : Expr} {Stay : (Addr → Prop) → Hp → Hp → Prop} {m : Rho → M Val} {p pos : Pos} (hC : C.K = X.K) (hg : Gl X "range") (hm : X.mg "range" = none) (ha : PE X a (tD C m)) (ns : noStar [a] = true) :
    PI X tg (.Call (.Name "range" p) [a] [] pos) (tIx C Stay fun ρ => ((m ρ).bind asI).bind fun n => if decide (-(2 ^ 62) ≤ n) && decide (n < 2 ^ 62) then .ok (rngD 0 n) else .bad) := by
  refine PI.imp (pi_range1 hg hm (pa_cons ha pa_nil (star_cons (noStar_head ns))) (star_cons (noStar_head ns))) fun σ H R h => ?_
  obtain ⟨A, ρ, env, hs⟩ := h
  have hs : (((m ρ).bind asI).bind _).Sat _ _ := hs
  rw [M.sat_bind] at hs
  refine int_one ⟨A, ρ, env, hs.mono (fun n hn A' H' g => ?_) fun _ _ z => z⟩
  split at hn
  · rename_i c
    obtain ⟨c1, c2⟩ := ba c
    refine ⟨n, rfl, of_decide_eq_true c1, of_decide_eq_true c2, ?_⟩
    have w := walk_rng (K := C.K) (A := A') (H := H') (Stay := Stay A' H') (lo := 0) (hi := n)
    rw [Int.sub_zero] at w
    exact hn A' H' _ g w
  · exact hn.elim
theorem pi_rng2D {tg a b : Expr} {Stay : (Addr → Prop) → Hp → Hp → Prop} {m m2 : Rho → M Val} {p pos : Pos} (hC : C.K = X.K) (hg : Gl X "range") (hm : X.mg "range" = none) (ha : PE X a (tD C m)) (hb : PE X b (tD C m2)) (ns : noStar [a, b] = true) :
    PI X tg (.Call (.Name "range" p) [a, b] [] pos) (tIx C Stay fun ρ => ((m ρ).bind asI).bind fun i => ((m2 ρ).bind asI).bind fun n =>
      if decide (-(2 ^ 62) ≤ i) && decide (i < 2 ^ 62) && decide (-(2 ^ 62) ≤ n) && decide (n < 2 ^ 62) then .ok (rngD i n) else .bad) := by
  have s2 := star_cons (es := []) (env := X.env) (noStar_head (noStar_tail ns))
  refine PI.imp (pi_range2 hg hm (pa_cons ha (pa_cons hb pa_nil s2) (star_cons (noStar_head ns))) (by rw [star_cons (noStar_head ns), s2]; rfl) s2) fun σ H R h => ?_
  obtain ⟨A, ρ, env, hs⟩ := h
  have hs : (((m ρ).bind asI).bind _).Sat _ _ := hs
  rw [M.sat_bind, M.sat_bind] at hs
  refine ⟨A, ρ, env, hs.mono (fun x hx A' v H' g r => ?_) fun _ _ z => z⟩
  obtain ⟨i, rfl, hy⟩ := asI_sat hx
  cases r
  rw [M.sat_bind] at hy
  refine int_one (Q := fun vs H2 => ∃ i2 j : Int, .int i :: vs = [.int i2, .int j] ∧ _) ⟨A', ρ, env.grow g, hy.mono (fun n hn A2 H2 g2 => ?_) fun _ _ z => z.grow g⟩
  split at hn
  · rename_i c
    obtain ⟨c, c4⟩ := ba c
    obtain ⟨c, c3⟩ := ba c
    obtain ⟨c1, c2⟩ := ba c
    exact ⟨i, n, rfl, ⟨of_decide_eq_true c1, of_decide_eq_true c2, of_decide_eq_true c3, of_decide_eq_true c4⟩, hn A2 H2 _ (g.trans g2) walk_rng⟩
  · exact hn.elim

theorem DA.put {K : PySem.W.Frag} {a : Addr} {xs ys : List V} (e : H a = some (.lst xs)) (na : ¬ A a) {d : PyData} {v : V} (h : DA A K H v d) : DA A K (upd H a (.lst ys)) v d := by
  refine DA.mono (fun _ h => h) (fun b zs hb q => ?_) (fun b zs q => q.keep fun o z => ?_) d v h
  · have hn : b ≠ a := fun z => na (z ▸ hb)
    rcases q with q | ⟨o, q⟩
    · exact .inl (by rw [upd_ne hn]; exact q)
    · exact .inr ⟨o, by rw [upd_ne hn]; exact q⟩
  · rw [upd_ne (ne_of z e (by intro w; cases w))]
    exact z
theorem DAs.put {K : PySem.W.Frag} {a : Addr} {xs ys : List V} (e : H a = some (.lst xs)) (na : ¬ A a) {d : List PyData} {v : List V} (h : DAs A K H v d) : DAs A K (upd H a (.lst ys)) v d := by
  refine DAs.mono (fun _ h => h) (fun b zs hb q => ?_) (fun b zs q => q.keep fun o z => ?_) d v h
  · have hn : b ≠ a := fun z => na (z ▸ hb)
    rcases q with q | ⟨o, q⟩
    · exact .inl (by rw [upd_ne hn]; exact q)
    · exact .inr ⟨o, by rw [upd_ne hn]; exact q⟩
  · rw [upd_ne (ne_of z e (by intro w; cases w))]
    exact z
theorem compM_len {f : D → M (Option D)} {E : Nat → List D → Prop} : ∀ (xs : List D) (Q : List D → Prop), (compM f xs).Sat Q E → (compM f xs).Sat (fun ys => ys.length ≤ xs.length ∧ Q ys) E
  | [], Q, h => ⟨Nat.le_refl _, h⟩
  | x :: xs, Q, h => by
    unfold compM at h ⊢
    rw [M.sat_bind] at h ⊢
    refine h.mono (fun o ho => ?_) fun _ _ z => z
    rw [M.sat_bind] at ho ⊢
    refine (compM_len xs _ ho).mono (fun ys hy => ?_) fun _ _ z => z
    obtain ⟨hl, hq⟩ := hy
    cases o with
    | none => exact ⟨Nat.le_succ_of_le hl, hq⟩
    | some y => exact ⟨Nat.succ_le_succ hl, hq⟩
theorem comp_ok {elt tg iter : Expr} {ifs : List Expr} {scope : Scope} {own : List (Str × Nat)} {g : Tg} {mi : Rho → M (List D)} {mt : Rho → M Bool} {me : Rho → M Val} {K : PySem.W.Frag} {H0 : Hp} (hK : X.K = K) {σ : L2.St} {H : Hp} {Q : VK}
    (hs : ∀ i ∈ tgSlots g, i ∈ own.map (·.2))
    (h : tF (C0 K H0) (fun ρ => (mi ρ).bind fun xs => ((compM (fun x => (asgD g x (wipeD ρ (own.map (·.2)))).bind fun ρ2 => (mt ρ2).bind fun b =>
      if b = true then ((me ρ2).bind Val.asD).bind fun y => .ok (some y) else .ok none) xs).quiet).bind fun ys => gd (lim xs.length) (.list ys)) σ H Q) :
    tLc (tIx (C0 K H0) (fun _ H => Same H) mi) (tG (C0 K H0) g) (tT (C0 K H0) mt) (tD (C0 K H0) me) (own.map (·.2)) σ H Q := by
  obtain ⟨A, ρ, env, hm⟩ := h
  have hm : ((mi ρ).bind _).Sat _ _ := hm
  rw [M.sat_bind] at hm
  refine ⟨A, ρ, env, hm.mono (fun xs hx A1 H1 J g1 w => ?_) fun _ _ z => z⟩
  rw [M.sat_bind] at hx
  have hx := M.quiet_sat hx
  have hlim : xs.length ≤ sizeLine := by
    obtain ⟨ys, hy⟩ := hx.ex
    exact lim_le (gd_sat hy).1
  obtain ⟨vs, hd, wgo, wst, wy⟩ := w.ex
  have env1 := env.grow g1
  intro D hD
  -- the list so far
  let f : Dv.D → M (Option Dv.D) := fun x => (asgD g x (wipeD ρ (own.map (·.2)))).bind fun ρ2 => (mt ρ2).bind fun b => if b = true then ((me ρ2).bind Val.asD).bind fun y => .ok (some y) else .ok none
  refine ⟨fun i m H2 => m = xs.length - i ∧ i ≤ xs.length ∧ ∃ A2 acc ds, Grow A1 H1 A2 H2 ∧ H2 D = some (.lst acc) ∧ ¬ A2 D ∧ DAs A2 K H2 acc ds ∧ ds.length ≤ i ∧
    (compM f (xs.drop i)).Sat (fun ys => (gd (lim xs.length) (.list (ds ++ ys))).Sat (fun d => ∀ A' a zs es H', Grow A H A' H' → d = .d (.list es) → H a = none → ¬ A' a → H' a = some (.lst zs) → DAs A' K H' zs es → Q (.ref a) H') (xE (C0 K H0) σ A H)) (fun _ _ => False), ⟨xs.length, ?_⟩, ?_⟩
  · refine ⟨rfl, Nat.zero_le _, A1, [], [], Grow.upd g1.ok hD, upd_same, fun z => ?_, .nil, Nat.le_refl _, ?_⟩
    · obtain ⟨o, e⟩ := g1.ok D z
      rw [hD] at e
      cases e
    · exact hx.mono (fun ys q => q) fun _ _ z => z
  rintro i m H2 ⟨rfl, hi, A2, acc, ds, g2, hacc, na, hds, hlen, hq⟩
  have st : Same H1 H2 := g2.same
  by_cases hlt : i < xs.length
  · refine .inr ⟨wgo i H2 st hlt, fun H' => ∃ A3 acc' ds', Grow A1 H1 A3 H' ∧ H' D = some (.lst acc') ∧ ¬ A3 D ∧ DAs A3 K H' acc' ds' ∧ ds'.length ≤ i + 1 ∧
      (compM f (xs.drop (i + 1))).Sat (fun ys => (gd (lim xs.length) (.list (ds' ++ ys))).Sat (fun d => ∀ A' a zs es H', Grow A H A' H' → d = .d (.list es) → H a = none → ¬ A' a → H' a = some (.lst zs) → DAs A' K H' zs es → Q (.ref a) H') (xE (C0 K H0) σ A H)) (fun _ _ => False), fun H' hN => ⟨xs.length - (i + 1), by omega, rfl, hlt, hN⟩, fun x H3 y => ?_⟩
    obtain ⟨rfl, ex⟩ := wy i H2 x H3 st hlt y
    obtain ⟨d, e1, hx1⟩ := hd.getV ex
    have ed : xs.drop i = d :: xs.drop (i + 1) := by
      rw [List.drop_eq_getElem_cons hlt]
      rw [List.getElem?_eq_getElem hlt] at e1
      rw [Option.some.inj e1]
    rw [ed] at hq
    have hq : ((f d).bind _).Sat _ _ := hq
    rw [M.sat_bind, M.sat_bind] at hq
    have env2 := (env1.grow g2).wiped (own.map (·.2))
    refine ⟨A2, wipeD ρ (own.map (·.2)), d, env2, hx1.grow g2, hq.mono (fun ρ2 h2 σ2 e2 w2 => ⟨?_, ?_⟩) fun _ _ z => z⟩
    · rw [w2 _ hs]
      clear w2 e2
      have idem : ∀ (l k : List Nat) (τ : L2.St), (∀ i ∈ l, i ∈ k) → wipe (wipe τ l) k = wipe τ k := by
        intro l
        induction l with
        | nil => intro k τ _; rfl
        | cons a r ih =>
          intro k τ hk
          show wipe ((wipe τ r).set a none) k = _
          rw [wipe_set (hk a List.mem_cons_self)]
          exact ih k τ fun i hi => hk i (List.mem_cons_of_mem _ hi)
      exact idem _ _ σ fun i hi => hi
    · rw [M.sat_bind] at h2
      refine ⟨A2, ρ2, e2, h2.mono (fun b hb A3 H4 g3 => ?_) fun _ _ z => z.elim⟩
      have g3' : Grow A1 H1 A3 H4 := g2.trans g3
      have hacc4 := g3.same _ _ hacc
      have na3 : ¬ A3 D := fun z => by
        rcases g3.new D z with q | q
        · exact na q
        · rw [hacc] at q; cases q
      cases b with
      | false =>
        rw [if_neg Bool.false_ne_true] at hb
        dsimp only
        rw [if_neg Bool.false_ne_true]
        have hb : (M.bind (compM f (xs.drop (i + 1))) _).Sat _ _ := hb
        rw [M.sat_bind] at hb
        exact ⟨A3, acc, ds, g3', hacc4, na3, hds.grow g3, Nat.le_succ_of_le hlen, hb⟩
      | true =>
        rw [if_pos rfl] at hb
        dsimp only
        rw [if_pos rfl]
        rw [M.sat_bind] at hb
        rw [M.sat_bind] at hb
        refine ⟨A3, ρ2, e2.grow g3, hb.mono (fun w hw A4 v H5 g4 r4 => ?_) fun _ _ z => z.elim⟩
        obtain ⟨y, rfl, hy⟩ := asD_sat hw
        have hy : (M.bind (compM f (xs.drop (i + 1))) _).Sat _ _ := hy
        rw [M.sat_bind] at hy
        have hacc5 := g4.same _ _ hacc4
        have na4 : ¬ A4 D := fun z => by
          rcases g4.new D z with q | q
          · exact na3 q
          · rw [hacc4] at q; cases q
        have hl : acc.length ≤ i := by rw [hds.length]; exact hlen
        refine ⟨acc, hacc5, ?_, ?_⟩
        · exact Nat.lt_of_lt_of_le (Nat.lt_of_le_of_lt hl hlt) hlim
        · have g4' := g3'.trans g4
          have ha : AOk A4 (upd H5 D (.lst (acc ++ [v]))) := fun b hb => by
            obtain ⟨o, e⟩ := g4.ok b hb
            exact ⟨o, by rw [upd_ne (fun z => na4 (by rw [← z]; exact hb))]; exact e⟩
          refine ⟨A4, acc ++ [v], ds ++ [y], ⟨fun b o e => ?_, g4'.sub, g4'.new, ha⟩, upd_same, na4, ?_, ?_, ?_⟩
          · rw [upd_ne (ne_of_none e hD)]
            exact g4'.same _ _ e
          · exact (((hds.grow g3).grow g4).append (.cons r4 .nil)).put hacc5 na4
          · rw [List.length_append]
            exact Nat.succ_le_succ hlen
          · refine hy.mono (fun ys q => ?_) fun _ _ z => z
            have q : (gd (lim xs.length) (.list (ds ++ (y :: ys)))).Sat _ _ := q
            rw [List.append_cons] at q
            exact q
  · have ei : i = xs.length := by omega
    subst ei
    refine .inl ⟨wst H2 st, ?_⟩
    rw [List.drop_length] at hq
    have hq : (gd (lim xs.length) (.list (ds ++ []))).Sat _ _ := hq
    rw [List.append_nil] at hq
    refine (gd_sat hq).2 A2 D acc ds H2 (g1.trans g2) rfl (g1.same.free hD) na hacc hds
end
end Dv
end
section
namespace Dv
open PySem PySem.Spec PyProof.Rows L2

/-- what is shown of all that k steps of fuel translate -/
structure Snd (n : Nat) (call : CallT) (k : Nat) : Prop where
  E : ∀ {tc : TC} {e : Expr} {ex : Ex}, trE k tc e = some ex → ∀ {X : Cx} (H0 : Hp), SX X tc n call → PE X e (tD (C0 X.K H0) (evalE call ex))
  F : ∀ {tc : TC} {e : Expr} {ex : Ex}, trE k tc e = some ex → isFresh ex = true → ∀ {X : Cx} (H0 : Hp), SX X tc n call → PE X e (tF (C0 X.K H0) (evalE call ex))
  T : ∀ {tc : TC} {e : Expr} {ex : Ex}, trE k tc e = some ex → ∀ {X : Cx} (H0 : Hp), SX X tc n call → PT X e (tT (C0 X.K H0) fun ρ => (evalE call ex ρ).bind asB)
  R : ∀ {tc : TC} {e : Expr} {ex : Ex}, trR k tc e = some ex → ∀ {X : Cx} (H0 : Hp), SX X tc n call → PE X e (tR (C0 X.K H0) fun ρ => (evalE call ex ρ).bind Val.asD)
  W : ∀ {tc : TC} {o : BoolOp} {vs : List Expr} {p : Pos} {ex : Ex}, trBool k tc o vs p = some ex → ∀ {X : Cx} (H0 : Hp), SX X tc n call → PE X (.BoolOp o vs p) (tD (C0 X.K H0) (evalE call ex)) ∧ PW X (.BoolOp o vs p) (tT (C0 X.K H0) fun ρ => (evalE call ex ρ).bind asB)
  Cm : ∀ {tc : TC} {a : Expr} {os : List CmpOp} {bs : List Expr} {p : Pos} {ex : Ex}, trCmp k tc a os bs = some ex → ∀ {X : Cx} (H0 : Hp), SX X tc n call →
    PE X (.Compare a os bs p) (tD (C0 X.K H0) (evalE call ex)) ∧ PT X (.Compare a os bs p) (tT (C0 X.K H0) fun ρ => (evalE call ex ρ).bind asB)
  Ca : ∀ {tc : TC} {f : Expr} {args : List Expr} {kws : List Keyword} {p : Pos} {ex : Ex}, trCall k tc f args kws p = some ex → ∀ {X : Cx} (H0 : Hp), SX X tc n call → PE X (.Call f args kws p) (tD (C0 X.K H0) (evalE call ex)) ∧ (isFresh ex = true → PE X (.Call f args kws p) (tF (C0 X.K H0) (evalE call ex)))
  B : ∀ {tc : TC} {x : Str} {args : List Expr} {q p : Pos} {ex : Ex}, trB k tc x args = some ex → isGlob tc x = true → tc.fns.lookup x = none → ∀ {X : Cx} (H0 : Hp), SX X tc n call →
    PE X (.Call (.Name x q) args [] p) (tD (C0 X.K H0) (evalE call ex)) ∧ (isFresh ex = true → PE X (.Call (.Name x q) args [] p) (tF (C0 X.K H0) (evalE call ex)))
  Sb : ∀ {tc : TC} {a i : Expr} {p : Pos} {ex : Ex}, trSub k tc a i = some ex → ∀ {X : Cx} (H0 : Hp), SX X tc n call → PE X (.Subscript a i p) (tD (C0 X.K H0) (evalE call ex))
  Co : ∀ {tc : TC} {elt : Expr} {gs : List Comprehension} {scope : Scope} {p : Pos} {ex : Ex}, trComp k tc elt gs scope = some ex → ∀ {X : Cx} (H0 : Hp), SX X tc n call → PE X (.ListComp elt gs scope p) (tF (C0 X.K H0) (evalE call ex))
  L : ∀ {tc : TC} {es : List Expr} {xs : List Ex}, trL k tc es = some xs → noStar es = true ∧ xs.length = es.length ∧ ∀ {X : Cx} (H0 : Hp), SX X tc n call → PA X es (tVs (C0 X.K H0) (evalVs call (exsOf xs))) ∧ PA X es (tAs (C0 X.K H0) (evalDs call (exsOf xs))) ∧
    (es.length ≤ 1 → PTs X es (tT (C0 X.K H0) (evalT call (exsOf xs))))
  Kw : ∀ {tc : TC} {kws : List Keyword} {xs : List Ex}, trL k tc (kws.map fun k => k.value) = some xs → ∀ {X : Cx} (H0 : Hp), SX X tc n call → PK X kws (tVs (C0 X.K H0) (evalVs call (exsOf xs)))
  Mm : ∀ {tc : TC} {es : List Expr} {xs : List Ex}, trM k tc es = some xs → noStar es = true ∧ ∀ {X : Cx} (H0 : Hp), SX X tc n call → PA X es (tA0 (C0 X.K H0) (evalDs call (exsOf xs)))
  O : ∀ {tc : TC} {o : Option Expr} {ex : Exo}, trO k tc o = some ex → ∀ {X : Cx} (H0 : Hp), SX X tc n call → PO X o (fun σ H Q => ∃ A ρ, EnvR (C0 X.K H0) A H σ ρ ∧ (evalO call ex ρ).Sat (fun i => ∀ A' H', Grow A H A' H' → Q i H') (xE (C0 X.K H0) σ A H))
  I : ∀ {tc : TC} {e tg : Expr} {ix : Ix}, trI k tc e = some ix → ∀ {X : Cx} (H0 : Hp), SX X tc n call → PI X tg e (tIx (C0 X.K H0) (fun _ H => Same H) (evalI call ix))
  J : ∀ {tc : TC} {e tg : Expr} {ix : Ix}, trJ k tc e = some ix → ∀ {X : Cx} (H0 : Hp), SX X tc n call → PI X tg e (tIx (C0 X.K H0) Keep (evalI call ix))

theorem bindO {α β : Type} {o : Option α} {f : α → Option β} {b : β} (h : o.bind f = some b) : ∃ a, o = some a ∧ f a = some b := by
  cases o with
  | none => cases h
  | some a => exact ⟨a, rfl, h⟩
theorem mapO {α β : Type} {o : Option α} {f : α → β} {b : β} (h : o.map f = some b) : ∃ a, o = some a ∧ f a = b := by
  cases o with
  | none => cases h
  | some a => exact ⟨a, rfl, Option.some.inj h⟩

section
variable {X : Cx} {n : Nat} {call : CallT} {k : Nat} {tc : TC} {H0 : Hp}

theorem vs_cons {C : EC} {m : Rho → M Val} {ms : Rho → M (List Val)} {σ : L2.St} {H : Hp} {Q : List V → Hp → Prop} (h : tVs C (fun ρ => (m ρ).bind fun x => (ms ρ).bind fun xs => .ok (x :: xs)) σ H Q) : tCons (tD C m) (tVs C ms) σ H Q := by
  obtain ⟨A, ρ, env, hs⟩ := h
  have hs : ((m ρ).bind _).Sat _ _ := hs
  rw [M.sat_bind] at hs
  refine ⟨A, ρ, env, hs.mono (fun x hx A1 v H1 g1 r1 => ?_) fun _ _ z => z⟩
  rw [M.sat_bind] at hx
  exact ⟨A1, ρ, env.grow g1, hx.mono (fun xs hxs A2 vs H2 g2 r2 => hxs A2 (v :: vs) H2 (g1.trans g2) ⟨r1.grow g2, r2⟩) fun _ _ z => z.grow g1⟩
theorem ds_cons {C : EC} {m : Rho → M Val} {ms : Rho → M (List D)} {σ : L2.St} {H : Hp} {Q : List V → Hp → Prop} (h : tAs C (fun ρ => ((m ρ).bind Val.asD).bind fun x => (ms ρ).bind fun xs => .ok (x :: xs)) σ H Q) : tCons (tD C m) (tAs C ms) σ H Q := by
  obtain ⟨A, ρ, env, hs⟩ := h
  have hs : (((m ρ).bind Val.asD).bind _).Sat _ _ := hs
  rw [M.bind_assoc, M.sat_bind] at hs
  refine ⟨A, ρ, env, hs.mono (fun x hx A1 v H1 g1 r1 => ?_) fun _ _ z => z⟩
  rw [M.sat_bind] at hx
  obtain ⟨x, rfl, hy⟩ := asD_sat hx
  rw [M.sat_bind] at hy
  exact ⟨A1, ρ, env.grow g1, hy.mono (fun xs hxs A2 vs H2 g2 r2 => hxs A2 (v :: vs) H2 (g1.trans g2) (.cons (DA.grow g2 r1) r2)) fun _ _ z => z.grow g1⟩
theorem d0_cons {C : EC} {m : Rho → M D} {ms : Rho → M (List D)} {σ : L2.St} {H : Hp} {Q : List V → Hp → Prop} (h : tA0 C (fun ρ => (m ρ).bind fun x => (ms ρ).bind fun xs => .ok (x :: xs)) σ H Q) : tCons (tR C m) (tA0 C ms) σ H Q := by
  obtain ⟨A, ρ, env, hs⟩ := h
  have hs : ((m ρ).bind _).Sat _ _ := hs
  rw [M.sat_bind] at hs
  refine ⟨A, ρ, env, hs.mono (fun x hx A1 v H1 g1 r1 => ?_) fun _ _ z => z⟩
  rw [M.sat_bind] at hx
  exact ⟨A1, ρ, env.grow g1, hx.mono (fun xs hxs A2 vs H2 g2 r2 => hxs A2 (v :: vs) H2 (g1.trans g2) (.cons (r1.grow g2) r2)) fun _ _ z => z.grow g1⟩
theorem notStar {k : Nat} {tc : TC} {e : Expr} {ex : Ex} (h : trE k tc e = some ex) : ∀ a p, e ≠ .Starred a p := fun a p z => by
  subst z
  cases k with
  | zero => cases h
  | succ k =>
    have h : (none : Option Ex) = some ex := h
    cases h
theorem noStar_cons {e : Expr} {es : List Expr} (h1 : ∀ a p, e ≠ .Starred a p) (h2 : noStar es = true) : noStar (e :: es) = true := by
  cases e <;> first | exact h2 | exact absurd rfl (h1 _ _)
theorem trR_E {k : Nat} {tc : TC} {e : Expr} {ex : Ex} (h : trR (k + 1) tc e = some ex) : (∃ x p i, e = .Name x p ∧ slotOf tc x = some i ∧ i ∈ tc.mv ∧ ex = .rd i) ∨ (∃ x p i, e = .Name x p ∧ slotOf tc x = some i ∧ ex = .var i) ∨ trE k tc e = some ex := by
  cases e with
  | Name x p =>
    have h : (match slotOf tc x with
      | some i => if i ∈ tc.mv then some (Ex.rd i) else some (.var i)
      | none => trE k tc (.Name x p)) = some ex := h
    cases e1 : slotOf tc x with
    | none => rw [e1] at h; exact .inr (.inr h)
    | some i =>
      rw [e1] at h
      by_cases hm : i ∈ tc.mv
      · have h : (if i ∈ tc.mv then some (Ex.rd i) else some (.var i)) = some ex := h
        rw [if_pos hm] at h
        cases h
        exact .inl ⟨x, p, i, rfl, e1, hm, rfl⟩
      · have h : (if i ∈ tc.mv then some (Ex.rd i) else some (.var i)) = some ex := h
        rw [if_neg hm] at h
        cases h
        exact .inr (.inl ⟨x, p, i, rfl, e1, rfl⟩)
  | _ => exact .inr (.inr h)
theorem trR_notSet {k : Nat} {tc : TC} {e : Expr} {ex : Ex} (h : trR k tc e = some ex) : ∀ a b p, e ≠ .Set a b p := fun a b p z => by
  subst z
  cases k with
  | zero => cases h
  | succ k =>
    have h : trE k tc (.Set a b p) = some ex := h
    cases k with
    | zero => cases h
    | succ k =>
      have h : (none : Option Ex) = some ex := h
      cases h
theorem trR_notStar {k : Nat} {tc : TC} {e : Expr} {ex : Ex} (h : trR k tc e = some ex) : ∀ a p, e ≠ .Starred a p := fun a p z => by
  subst z
  cases k with
  | zero => cases h
  | succ k =>
    have h : trE k tc (.Starred a p) = some ex := h
    exact notStar h a p rfl
theorem noMark {o : CmpOp} {b : Expr} (h : ∀ x y p, b ≠ .Set x y p) : behindInMarks o b = false := by
  cases b <;> first | rfl | exact absurd rfl (h _ _ _)
theorem noFold {e : Expr} {env : Env} (h : ∀ x y p, e ≠ .Set x y p) : ∀ x, foldedSetIterable e env x = pure x := by
  intro x
  cases e <;> first | rfl | exact absurd rfl (h _ _ _)
theorem plainIx {e : Expr} (h : ∀ a b c p, e ≠ .Slice a b c p) : PlainIx e := by
  intro o i
  cases e <;> first | rfl | exact absurd rfl (h _ _ _ _)
theorem noSlice {k : Nat} {tc : TC} {e : Expr} {ex : Ex} (h : trE k tc e = some ex) : ∀ a b c p, e ≠ .Slice a b c p := fun a b c p z => by
  subst z
  cases k with
  | zero => cases h
  | succ k =>
    have h : (none : Option Ex) = some ex := h
    cases h

theorem step_R (S : Snd n call k) {e : Expr} {ex : Ex} (h : trR (k + 1) tc e = some ex) (sx : SX X tc n call) : PE X e (tR (C0 X.K H0) fun ρ => (evalE call ex ρ).bind Val.asD) := by
  rcases trR_E h with ⟨x, p, i, rfl, e1, hm, rfl⟩ | ⟨x, p, i, rfl, e1, rfl⟩ | h
  · obtain ⟨a, b, c, d⟩ := sx.slot e1
    exact pe_slotR a b c d
  · obtain ⟨a, b, c, d⟩ := sx.slot e1
    exact PE.imp (pe_slot a b c d) fun σ H Q => tD_tR
  · exact PE.imp (S.E h H0 sx) fun σ H Q => tD_tR
theorem step_L (S : Snd n call k) {es : List Expr} {xs : List Ex} (h : trL (k + 1) tc es = some xs) : noStar es = true ∧ xs.length = es.length ∧ ∀ {X : Cx} (H0 : Hp), SX X tc n call → PA X es (tVs (C0 X.K H0) (evalVs call (exsOf xs))) ∧ PA X es (tAs (C0 X.K H0) (evalDs call (exsOf xs))) ∧
    (es.length ≤ 1 → PTs X es (tT (C0 X.K H0) (evalT call (exsOf xs)))) := by
  cases es with
  | nil =>
    cases h
    refine ⟨rfl, rfl, fun {X} H0 sx => ⟨PA.imp pa_nil fun σ H Q ⟨A, ρ, env, hs⟩ => hs A [] H (Grow.refl env.aok) trivial, PA.imp pa_nil fun σ H Q ⟨A, ρ, env, hs⟩ => hs A [] H (Grow.refl env.aok) .nil, fun _ => ⟨fun pins s σ H Q I ⟨A, ρ, env, hs⟩ => pts_nil.run pins s σ H Q I (hs A H (Grow.refl env.aok))⟩⟩⟩
  | cons e es =>
    have h : (trE k tc e).bind (fun x => (trL k tc es).map fun y => x :: y) = some xs := h
    obtain ⟨x, h1, h⟩ := bindO h
    obtain ⟨ys, h2, rfl⟩ := mapO h
    obtain ⟨n1, n2, n3⟩ := S.L h2
    have ns := notStar h1
    refine ⟨noStar_cons ns n1, congrArg (· + 1) n2, fun {X} H0 sx => ?_⟩
    obtain ⟨p1, p2, p3⟩ := n3 H0 sx
    refine ⟨PA.imp (pa_cons (S.E h1 H0 sx) p1 (star_cons ns)) fun σ H Q => vs_cons, PA.imp (pa_cons (S.E h1 H0 sx) p2 (star_cons ns)) fun σ H Q => ds_cons, fun hl => ?_⟩
    cases es with
    | nil =>
      cases k with
      | zero => cases h2
      | succ k =>
        cases h2
        refine ⟨fun pins s σ H Q I ⟨A, ρ, env, hs⟩ => (pts_one (S.T h1 H0 sx)).run pins s σ H Q I ⟨A, ρ, env, ?_⟩⟩
        have hs : (((evalE call x ρ).bind asB).bind fun b => if b = true then M.ok true else .ok false).Sat _ _ := hs
        rw [M.sat_bind] at hs
        refine hs.mono (fun b hb => ?_) fun _ _ z => z
        cases b <;> exact hb
    | cons _ _ => exact absurd hl (by simp)
theorem step_Kw (S : Snd n call k) {kws : List Keyword} {xs : List Ex} (h : trL (k + 1) tc (kws.map fun k => k.value) = some xs) (sx : SX X tc n call) : PK X kws (tVs (C0 X.K H0) (evalVs call (exsOf xs))) := by
  cases kws with
  | nil =>
    cases h
    exact ⟨fun pos pins s σ H Q I ⟨A, ρ, env, hs⟩ => pk_nil.run pos pins s σ H Q I (hs A [] H (Grow.refl env.aok) trivial)⟩
  | cons kw kws =>
    obtain ⟨nm, e, kp⟩ := kw
    have h : (trE k tc e).bind (fun x => (trL k tc (kws.map fun k => k.value)).map fun y => x :: y) = some xs := h
    obtain ⟨x, h1, h⟩ := bindO h
    obtain ⟨ys, h2, rfl⟩ := mapO h
    exact ⟨fun pos pins s σ H Q I q => (pk_cons (S.E h1 H0 sx) (S.Kw h2 H0 sx)).run pos pins s σ H Q I (vs_cons q)⟩
theorem step_Mm (S : Snd n call k) {es : List Expr} {xs : List Ex} (h : trM (k + 1) tc es = some xs) : noStar es = true ∧ ∀ {X : Cx} (H0 : Hp), SX X tc n call → PA X es (tA0 (C0 X.K H0) (evalDs call (exsOf xs))) := by
  cases es with
  | nil =>
    cases h
    exact ⟨rfl, fun {X} H0 sx => PA.imp pa_nil fun σ H Q ⟨A, ρ, env, hs⟩ => hs A [] H (Grow.refl env.aok) .nil⟩
  | cons e es =>
    have h : (trR k tc e).bind (fun x => (trM k tc es).map fun y => x :: y) = some xs := h
    obtain ⟨x, h1, h⟩ := bindO h
    obtain ⟨ys, h2, rfl⟩ := mapO h
    obtain ⟨n1, n2⟩ := S.Mm h2
    have ns := trR_notStar h1
    exact ⟨noStar_cons ns n1, fun {X} H0 sx => PA.imp (pa_cons (S.R h1 H0 sx) (n2 H0 sx) (star_cons ns)) fun σ H Q => d0_cons⟩
theorem step_O (S : Snd n call k) {o : Option Expr} {ex : Exo} (h : trO (k + 1) tc o = some ex) (sx : SX X tc n call) :
    PO X o (fun σ H Q => ∃ A ρ, EnvR (C0 X.K H0) A H σ ρ ∧ (evalO call ex ρ).Sat (fun i => ∀ A' H', Grow A H A' H' → Q i H') (xE (C0 X.K H0) σ A H)) := by
  cases o with
  | none =>
    cases h
    exact ⟨fun pins s σ H Q I ⟨A, ρ, env, hs⟩ => po_none.run pins s σ H Q I (hs A H (Grow.refl env.aok))⟩
  | some e =>
    have h : (trE k tc e).map Exo.yes = some ex := h
    obtain ⟨x, h1, rfl⟩ := mapO h
    refine ⟨fun pins s σ H Q I ⟨A, ρ, env, hs⟩ => (po_some (S.E h1 H0 sx)).run pins s σ H Q I ⟨A, ρ, env, ?_⟩⟩
    have hs : (((evalE call x ρ).bind asI).bind fun i => M.ok (some i)).Sat _ _ := hs
    rw [M.bind_assoc, M.sat_bind] at hs
    refine hs.mono (fun v hv A' w H' g r => ?_) fun _ _ z => z
    rw [M.sat_bind] at hv
    obtain ⟨i, rfl, q⟩ := asI_sat hv
    cases r
    exact ⟨i, rfl, q A' H' g⟩

theorem step_W (S : Snd n call k) {o : BoolOp} {vs : List Expr} {p : Pos} {ex : Ex} (h : trBool (k + 1) tc o vs p = some ex) (sx : SX X tc n call) :
    PE X (.BoolOp o vs p) (tD (C0 X.K H0) (evalE call ex)) ∧ PW X (.BoolOp o vs p) (tT (C0 X.K H0) fun ρ => (evalE call ex ρ).bind asB) := by
  match vs, h with
  | [], h =>
    have h : (none : Option Ex) = some ex := h
    cases h
  | [a], h =>
    have h : trE k tc a = some ex := h
    refine ⟨pe_one (S.E h H0 sx), ?_⟩
    cases o with
    | And => exact pw_and1 (S.T h H0 sx)
    | Or => exact pw_or1 (S.T h H0 sx)
  | a :: b :: r, h =>
    have h : (trE k tc a).bind (fun x => (trBool k tc o (b :: r) p).map fun y => andOr o x y) = some ex := h
    obtain ⟨x, h1, h⟩ := bindO h
    obtain ⟨y, h2, rfl⟩ := mapO h
    obtain ⟨q1, q2⟩ := S.W h2 H0 sx
    cases o with
    | And =>
      refine ⟨PE.imp (pe_and (S.E h1 H0 sx) q1) fun σ H Q hh => ?_, PW.imp (pw_and (S.T h1 H0 sx) q2) fun σ H Q hh => ?_⟩
      · obtain ⟨A, ρ, env, hs⟩ := hh
        have hs : (((evalE call x ρ).bind asB).bind _).Sat _ _ := hs
        rw [M.bind_assoc, M.sat_bind] at hs
        refine ⟨A, ρ, env, hs.mono (fun v hv A1 w H1 g1 r1 => ?_) fun _ _ z => z⟩
        rw [M.sat_bind] at hv
        obtain ⟨c, rfl, hc⟩ := asB_sat hv
        cases r1
        refine ⟨c, rfl, ?_⟩
        cases c with
        | true =>
          have hc : (((evalE call y ρ).bind asB).bind fun y => okd (.bool y)).Sat _ _ := hc
          rw [M.bind_assoc, M.sat_bind] at hc
          refine ⟨A1, ρ, env.grow g1, hc.mono (fun v hv A2 w H2 g2 r2 => ?_) fun _ _ z => z.grow g1⟩
          rw [M.sat_bind] at hv
          obtain ⟨d, rfl, hd⟩ := asB_sat hv
          exact hd A2 w H2 (g1.trans g2) r2
        | false => exact hc A1 _ H1 g1 (DA.bl false)
      · obtain ⟨A, ρ, env, hs⟩ := hh
        have hs : ((((evalE call x ρ).bind asB).bind fun x => if x = true then ((evalE call y ρ).bind asB).bind fun y => okd (.bool y) else okd (.bool false)).bind asB).Sat _ _ := hs
        rw [M.bind_assoc, M.sat_bind] at hs
        refine ⟨A, ρ, env, hs.mono (fun c hc A1 H1 g1 => ?_) fun _ _ z => z⟩
        cases c with
        | true =>
          have hc : ((((evalE call y ρ).bind asB).bind fun y => okd (.bool y)).bind asB).Sat _ _ := hc
          rw [M.bind_assoc, M.sat_bind] at hc
          exact ⟨A1, ρ, env.grow g1, hc.mono (fun d hd A2 H2 g2 => hd A2 H2 (g1.trans g2)) fun _ _ z => z.grow g1⟩
        | false => exact hc A1 H1 g1
    | Or =>
      refine ⟨PE.imp (pe_or (S.E h1 H0 sx) q1) fun σ H Q hh => ?_, PW.imp (pw_or (S.T h1 H0 sx) q2) fun σ H Q hh => ?_⟩
      · obtain ⟨A, ρ, env, hs⟩ := hh
        have hs : (((evalE call x ρ).bind asB).bind _).Sat _ _ := hs
        rw [M.bind_assoc, M.sat_bind] at hs
        refine ⟨A, ρ, env, hs.mono (fun v hv A1 w H1 g1 r1 => ?_) fun _ _ z => z⟩
        rw [M.sat_bind] at hv
        obtain ⟨c, rfl, hc⟩ := asB_sat hv
        cases r1
        refine ⟨c, rfl, ?_⟩
        cases c with
        | false =>
          have hc : (((evalE call y ρ).bind asB).bind fun y => okd (.bool y)).Sat _ _ := hc
          rw [M.bind_assoc, M.sat_bind] at hc
          refine ⟨A1, ρ, env.grow g1, hc.mono (fun v hv A2 w H2 g2 r2 => ?_) fun _ _ z => z.grow g1⟩
          rw [M.sat_bind] at hv
          obtain ⟨d, rfl, hd⟩ := asB_sat hv
          exact hd A2 w H2 (g1.trans g2) r2
        | true => exact hc A1 _ H1 g1 (DA.bl true)
      · obtain ⟨A, ρ, env, hs⟩ := hh
        have hs : ((((evalE call x ρ).bind asB).bind fun x => if x = true then okd (.bool true) else ((evalE call y ρ).bind asB).bind fun y => okd (.bool y)).bind asB).Sat _ _ := hs
        rw [M.bind_assoc, M.sat_bind] at hs
        refine ⟨A, ρ, env, hs.mono (fun c hc A1 H1 g1 => ?_) fun _ _ z => z⟩
        cases c with
        | false =>
          have hc : ((((evalE call y ρ).bind asB).bind fun y => okd (.bool y)).bind asB).Sat _ _ := hc
          rw [M.bind_assoc, M.sat_bind] at hc
          exact ⟨A1, ρ, env.grow g1, hc.mono (fun d hd A2 H2 g2 => hd A2 H2 (g1.trans g2)) fun _ _ z => z.grow g1⟩
        | true => exact hc A1 H1 g1
end
end Dv
end
section
namespace Dv
open PySem PySem.Spec PyProof.Rows L2
section
variable {X : Cx} {n : Nat} {call : CallT} {k : Nat} {tc : TC} {H0 : Hp}

theorem step_Cm (S : Snd n call k) {a : Expr} {os : List CmpOp} {bs : List Expr} {p : Pos} {ex : Ex} (h : trCmp (k + 1) tc a os bs = some ex) (sx : SX X tc n call) :
    PE X (.Compare a os bs p) (tD (C0 X.K H0) (evalE call ex)) ∧ PT X (.Compare a os bs p) (tT (C0 X.K H0) fun ρ => (evalE call ex ρ).bind asB) := by
  match os, bs, h with
  | [o], [b], h =>
    have h : (trR k tc a).bind (fun x => (trR k tc b).map fun y => Ex.cmp o x y) = some ex := h
    obtain ⟨x, h1, h⟩ := bindO h
    obtain ⟨y, h2, rfl⟩ := mapO h
    have nm : behindInMarks o b = false := noMark (trR_notSet h2)
    have key : ∀ {σ : L2.St} {H : Hp} {Q : VK}, tD (C0 X.K H0) (evalE call (.cmp o x y)) σ H Q → tOp (rD2 X.K (cmpD o)) (tR (C0 X.K H0) fun ρ => (evalE call x ρ).bind Val.asD) (tR (C0 X.K H0) fun ρ => (evalE call y ρ).bind Val.asD) σ H Q := fun h => two_tR (C := C0 X.K H0) h
    refine ⟨PE.imp (pe_cmpR (op_cmpD sx.hu o) (S.R h1 H0 sx) (S.R h2 H0 sx) nm) fun σ H Q => key, PT.imp (pt_cmpR (op_cmpD sx.hu o) (S.R h1 H0 sx) (S.R h2 H0 sx) nm) fun σ H Q hh => key (tT_tD hh)⟩
  | [o, o2], [b, c], h =>
    have h : (trR k tc a).bind (fun x => (trR k tc b).bind fun y => (trR k tc c).map fun z => Ex.chain o o2 x y z) = some ex := h
    obtain ⟨x, h1, h⟩ := bindO h
    obtain ⟨y, h2, h⟩ := bindO h
    obtain ⟨z, h3, rfl⟩ := mapO h
    have n1 : behindInMarks o b = false := noMark (trR_notSet h2)
    have n2 : behindInMarks o2 c = false := noMark (trR_notSet h3)
    have key : ∀ {σ : L2.St} {H : Hp} {Q : VK}, tD (C0 X.K H0) (evalE call (.chain o o2 x y z)) σ H Q → tChain (rD2 X.K (cmpD o)) (rD2 X.K (cmpD o2)) (tR (C0 X.K H0) fun ρ => (evalE call x ρ).bind Val.asD) (tR (C0 X.K H0) fun ρ => (evalE call y ρ).bind Val.asD) (tR (C0 X.K H0) fun ρ => (evalE call z ρ).bind Val.asD) σ H Q := by
      intro σ H Q hh
      obtain ⟨A, ρ, env, hs⟩ := hh
      have hs : (((evalE call x ρ).bind Val.asD).bind _).Sat _ _ := hs
      rw [M.sat_bind] at hs
      refine ⟨A, ρ, env, hs.mono (fun dx hx A1 v H1 g1 r1 => ?_) fun _ _ z => z⟩
      rw [M.sat_bind] at hx
      refine ⟨A1, ρ, env.grow g1, hx.mono (fun dy hy A2 w H2 g2 r2 => ?_) fun _ _ z => z.grow g1⟩
      rw [M.sat_bind, M.sat_bind] at hy
      refine ⟨A2, dx, dy, _, g2.ok, r1.grow g2, r2, hy.mono (fun d hd A3 u H3 g3 r3 => ?_) fun _ _ z => z⟩
      obtain ⟨c, rfl, hc⟩ := asB_sat hd
      cases r3
      have g123 := (g1.trans g2).trans g3
      cases c with
      | true =>
        refine ⟨true, rfl, ?_⟩
        rw [if_pos rfl]
        rw [if_pos rfl, M.sat_bind] at hc
        refine ⟨A3, ρ, env.grow g123, hc.mono (fun dz hz A4 u H4 g4 r4 => ?_) fun _ _ z => z.grow g123⟩
        exact ⟨A4, dy, dz, _, g4.ok, (r2.grow g3).grow g4, r4, hz.mono (fun d q A5 t H5 g5 r5 => q A5 t H5 ((g123.trans g4).trans g5) r5) fun _ _ z => z⟩
      | false =>
        refine ⟨false, rfl, ?_⟩
        rw [if_neg Bool.false_ne_true]
        exact hc A3 _ H3 g123 (DA.bl false)
    refine ⟨PE.imp (pe_chain (op_cmpD sx.hu o) (op_cmpD sx.hu o2) (S.R h1 H0 sx) (S.R h2 H0 sx) (S.R h3 H0 sx) n2) fun σ H Q => key, PT.imp (pt_chain (op_cmpD sx.hu o) (op_cmpD sx.hu o2) (S.R h1 H0 sx) (S.R h2 H0 sx) (S.R h3 H0 sx) n2) fun σ H Q hh => ?_⟩
    exact key (tT_tD hh)
  | [], _, h => exact (nomatch (show (none : Option Ex) = some ex from h))
  | [_], [], h => exact (nomatch (show (none : Option Ex) = some ex from h))
  | [_], _ :: _ :: _, h => exact (nomatch (show (none : Option Ex) = some ex from h))
  | [_, _], [], h => exact (nomatch (show (none : Option Ex) = some ex from h))
  | [_, _], [_], h => exact (nomatch (show (none : Option Ex) = some ex from h))
  | [_, _], _ :: _ :: _ :: _, h => exact (nomatch (show (none : Option Ex) = some ex from h))
  | _ :: _ :: _ :: _, _, h => exact (nomatch (show (none : Option Ex) = some ex from h))
theorem blt_key {C : EC} {b : Bf} {ms : Rho → M (List D)} {σ : L2.St} {H : Hp} {Q : VK} (h : tD C (fun ρ => (ms ρ).bind fun xs => bltD b xs) σ H Q) : tCB (rDs C.K (bltD b)) (tA0 C ms) σ H Q := by
  obtain ⟨A, ρ, env, hs⟩ := h
  have hs : ((ms ρ).bind _).Sat _ _ := hs
  rw [M.sat_bind] at hs
  exact ⟨A, ρ, env, hs.mono (fun ds hds A1 vs H1 g r => ⟨A1, ds, _, g.ok, r, hds.mono (fun d q A2 v H2 g2 r2 => q A2 v H2 (g.trans g2) r2) fun _ _ z => z⟩) fun _ _ z => z⟩
theorem blt_keyF {C : EC} {b : Bf} {ms : Rho → M (List D)} {σ : L2.St} {H : Hp} {Q : VK} (h : tF C (fun ρ => (ms ρ).bind fun xs => bltD b xs) σ H Q) : tCB (rFs C.K (bltD b)) (tA0 C ms) σ H Q := by
  obtain ⟨A, ρ, env, hs⟩ := h
  have hs : ((ms ρ).bind _).Sat _ _ := hs
  rw [M.sat_bind] at hs
  refine ⟨A, ρ, env, hs.mono (fun ds hds A1 vs H1 g r => ⟨A1, ds, _, g.ok, r, hds.mono (fun d q p xs es e hp hd => ?_) fun _ _ z => z⟩) fun _ _ z => z⟩
  refine q A1 p xs es _ (g.trans (Grow.upd g.ok hp)) e (g.same.free hp) (fun z => ?_) upd_same (hd.grow (Grow.upd g.ok hp))
  obtain ⟨o, eo⟩ := g.ok p z
  rw [hp] at eo
  cases eo
theorem bf_cases {f : Str} {b : Bf} (h : bfOf f = some b) : (f = "len" ∧ b = .len) ∨ (f = "tuple" ∧ b = .tuple) ∨ (f = "list" ∧ b = .list) ∨ (f = "sorted" ∧ b = .sorted) ∨ (f = "min" ∧ b = .min) ∨ (f = "max" ∧ b = .max) ∨ (f = "all" ∧ b = .all) ∨ (f = "any" ∧ b = .any) ∨ (f = "sum" ∧ b = .sum) ∨ (f = "repr" ∧ b = .repr) ∨ (f = "int" ∧ b = .int) ∨ (f = "abs" ∧ b = .abs) ∨ (f = "divmod" ∧ b = .divmod) := by
  unfold bfOf at h
  by_cases e : f = "len"
  · rw [if_pos e] at h
    exact .inl ⟨e, (Option.some.inj h).symm⟩
  rw [if_neg e] at h
  clear e
  by_cases e : f = "tuple"
  · rw [if_pos e] at h
    exact .inr (.inl ⟨e, (Option.some.inj h).symm⟩)
  rw [if_neg e] at h
  clear e
  by_cases e : f = "list"
  · rw [if_pos e] at h
    exact .inr (.inr (.inl ⟨e, (Option.some.inj h).symm⟩))
  rw [if_neg e] at h
  clear e
  by_cases e : f = "sorted"
  · rw [if_pos e] at h
    exact .inr (.inr (.inr (.inl ⟨e, (Option.some.inj h).symm⟩)))
  rw [if_neg e] at h
  clear e
  by_cases e : f = "min"
  · rw [if_pos e] at h
    exact .inr (.inr (.inr (.inr (.inl ⟨e, (Option.some.inj h).symm⟩))))
  rw [if_neg e] at h
  clear e
  by_cases e : f = "max"
  · rw [if_pos e] at h
    exact .inr (.inr (.inr (.inr (.inr (.inl ⟨e, (Option.some.inj h).symm⟩)))))
  rw [if_neg e] at h
  clear e
  by_cases e : f = "all"
  · rw [if_pos e] at h
    exact .inr (.inr (.inr (.inr (.inr (.inr (.inl ⟨e, (Option.some.inj h).symm⟩))))))
  rw [if_neg e] at h
  clear e
  by_cases e : f = "any"
  · rw [if_pos e] at h
    exact .inr (.inr (.inr (.inr (.inr (.inr (.inr (.inl ⟨e, (Option.some.inj h).symm⟩)))))))
  rw [if_neg e] at h
  clear e
  by_cases e : f = "sum"
  · rw [if_pos e] at h
    exact .inr (.inr (.inr (.inr (.inr (.inr (.inr (.inr (.inl ⟨e, (Option.some.inj h).symm⟩))))))))
  rw [if_neg e] at h
  clear e
  by_cases e : f = "repr"
  · rw [if_pos e] at h
    exact .inr (.inr (.inr (.inr (.inr (.inr (.inr (.inr (.inr (.inl ⟨e, (Option.some.inj h).symm⟩)))))))))
  rw [if_neg e] at h
  clear e
  by_cases e : f = "int"
  · rw [if_pos e] at h
    exact .inr (.inr (.inr (.inr (.inr (.inr (.inr (.inr (.inr (.inr (.inl ⟨e, (Option.some.inj h).symm⟩))))))))))
  rw [if_neg e] at h
  clear e
  by_cases e : f = "abs"
  · rw [if_pos e] at h
    exact .inr (.inr (.inr (.inr (.inr (.inr (.inr (.inr (.inr (.inr (.inr (.inl ⟨e, (Option.some.inj h).symm⟩)))))))))))
  rw [if_neg e] at h
  clear e
  by_cases e : f = "divmod"
  · rw [if_pos e] at h
    exact .inr (.inr (.inr (.inr (.inr (.inr (.inr (.inr (.inr (.inr (.inr (.inr (⟨e, (Option.some.inj h).symm⟩))))))))))))
  rw [if_neg e] at h
  clear e
  cases h
theorem boot_sorted' : bootBuiltins (Str.ofString "sorted") = some (.builtin "sorted") := by decide +kernel
theorem boot_all' : bootBuiltins (Str.ofString "all") = some (.builtin "all") := by decide +kernel
theorem boot_any' : bootBuiltins (Str.ofString "any") = some (.builtin "any") := by decide +kernel
theorem boot_sum' : bootBuiltins (Str.ofString "sum") = some (.builtin "sum") := by decide +kernel
theorem boot_repr' : bootBuiltins (Str.ofString "repr") = some (.builtin "repr") := by decide +kernel
theorem boot_min' : bootBuiltins (Str.ofString "min") = some (.builtin "min") := by decide +kernel
theorem boot_max' : bootBuiltins (Str.ofString "max") = some (.builtin "max") := by decide +kernel
theorem boot_len' : bootBuiltins (Str.ofString "len") = some (.builtin "len") := by decide +kernel
theorem boot_tuple' : bootBuiltins (Str.ofString "tuple") = some (.type "tuple") := by decide +kernel
theorem boot_list' : bootBuiltins (Str.ofString "list") = some (.type "list") := by decide +kernel
theorem boot_abs' : bootBuiltins (Str.ofString "abs") = some (.builtin "abs") := by decide +kernel
theorem boot_divmod' : bootBuiltins (Str.ofString "divmod") = some (.builtin "divmod") := by decide +kernel
theorem boot_isi' : bootBuiltins (Str.ofString "isinstance") = some (.builtin "isinstance") := by decide +kernel
theorem lenset_key {C : EC} {m : Rho → M D} {σ : L2.St} {H : Hp} {Q : VK} (h : tD C (fun ρ => ((m ρ).bind fun x => M.ok [x]).bind fun xs => bltD .lenset xs) σ H Q) :
    tR C m σ H fun x H1 => ∃ A a xs ns, AOk A H1 ∧ x = .ref a ∧ TupAt C.K H1 a xs ∧ xs = ns.map V.int ∧ ns.length ≤ 60 ∧ Q (.int (dedI ns).length) H1 := by
  obtain ⟨A, ρ, env, hs⟩ := h
  have hs : (((m ρ).bind fun x => M.ok [x]).bind _).Sat _ _ := hs
  rw [M.bind_assoc, M.sat_bind] at hs
  refine ⟨A, ρ, env, hs.mono (fun d hd A1 v H1 g r => ?_) fun _ _ z => z⟩
  have hd : (bltD .lenset [d]).Sat _ _ := hd
  cases d with
  | tuple ds =>
    have hd : (match intsOf ds with
      | some ns => gd (Nat.ble ns.length 60) (.int (dedI ns).length)
      | none => M.bad).Sat _ _ := hd
    cases e : intsOf ds with
    | none => rw [e] at hd; exact hd.elim
    | some ns =>
      rw [e] at hd
      obtain ⟨c, q⟩ := gd_sat hd
      obtain ⟨a, xs, rfl, hq, hr⟩ := r.tuple
      exact ⟨A1, a, xs, ns, g.ok, rfl, hq, hr.ints e, Nat.le_of_ble_eq_true c, q A1 _ H1 g (DA.int _)⟩
  | _ => exact hd.elim
theorem isLen_eq {f : Str} {args : List Expr} {a : Expr} (h : isLenSet tc f args = some a) : ∃ g q p, args = [.Call (.Name g q) [a] [] p] ∧ f = "len" ∧ g = "set" ∧ isGlob tc g = true ∧ tc.fns.lookup g = none := by
  unfold isLenSet at h
  split at h
  · rename_i g q a' p
    split at h
    · rename_i c
      cases h
      obtain ⟨c1, c⟩ := ba c
      obtain ⟨c2, c⟩ := ba c
      obtain ⟨c3, c4⟩ := ba c
      exact ⟨g, q, p, rfl, of_decide_eq_true c1, of_decide_eq_true c2, c3, by simpa using c4⟩
    · cases h
  · cases h
theorem pe_lenset {a : Expr} {q q2 p p2 : Pos} {ta : TE} (hg : Gl X "len") (hm : X.mg "len" = none) (hg2 : Gl X "set") (hm2 : X.mg "set" = none) (hc : X.calm = true) (ns : noStar [a] = true) (ha : PE X a ta) :
    PE X (.Call (.Name "len" q) [.Call (.Name "set" q2) [a] [] p2] [] p) (fun σ H Q => ta σ H fun x H1 => ∃ A a xs ns, AOk A H1 ∧ x = .ref a ∧ TupAt X.K H1 a xs ∧ xs = ns.map V.int ∧ ns.length ≤ 60 ∧ Q (.int (dedI ns).length) H1) := by
  have na := star_cons (es := []) (env := X.env) (noStar_head ns)
  refine ⟨fun pins s σ H Q I h => ?_⟩
  refine Call_ (ld_blt I hg hm boot_len' ?_)
  refine PyProof.Rows.callWith_builtin1 (PyProof.Rows.args_cons ?_ rfl) rfl rfl
  refine Call_ (ld_blt I hg2 hm2 PyProof.Rows.boot_set ?_)
  refine PyProof.Rows.callWith_type1 (PyProof.Rows.args_cons (thn (ha.run pins s σ H _ I h) fun v s1 ⟨x, H1, I1, r1, q1⟩ => PyProof.Rows.args_nil ?_) na) na rfl
  obtain ⟨A, t, xs, ns, _, rfl, hq, e, hl, q1⟩ := q1
  cases r1
  exact thn (lenset_ok hc I1 hq e hl q1) fun r s' hr => PyProof.Rows.args_nil hr
theorem isaArg_eq {args : List Expr} {a : Expr} {u : Ty} (h : isaArg tc args = some (a, u)) : ∃ t q, args = [a, .Name t q] ∧ isGlob tc t = true ∧ tc.fns.lookup t = none ∧ tyOf t = some u := by
  unfold isaArg at h
  split at h
  · rename_i a' t q
    split at h
    · rename_i c
      obtain ⟨u', h1, h2⟩ := mapO h
      cases h2
      obtain ⟨c1, c2⟩ := ba c
      exact ⟨t, q, rfl, c1, by simpa using c2, h1⟩
    · cases h
  · cases h
theorem ty_facts (sx : SX X tc n call) {t : Str} {u : Ty} (h : tyOf t = some u) (hf : tc.fns.lookup t = none) : ∃ T : String, (u = .int ∧ T = "int" ∨ u = .bool ∧ T = "bool" ∨ u = .str ∧ T = "str" ∨ u = .tuple ∧ T = "tuple" ∨ u = .list ∧ T = "list") ∧
    bootBuiltins t = some (.type T) ∧ X.mg t = none ∧ t ≠ "__name__" ∧ (t == ("__debug__" : Str)) = false := by
  have c : (t = "int" ∧ u = .int) ∨ (t = "bool" ∧ u = .bool) ∨ (t = "str" ∧ u = .str) ∨ (t = "tuple" ∧ u = .tuple) ∨ (t = "list" ∧ u = .list) := by
    unfold tyOf at h
    repeat' split at h
    all_goals first
      | (cases h; simp_all)
      | cases h
  rcases c with ⟨rfl, rfl⟩ | ⟨rfl, rfl⟩ | ⟨rfl, rfl⟩ | ⟨rfl, rfl⟩ | ⟨rfl, rfl⟩
  · exact ⟨"int", by simp, PyProof.Rows.boot_int, sx.free _ (by decide) hf, by decide, by decide⟩
  · exact ⟨"bool", by simp, PyProof.Rows.boot_bool, sx.free _ (by decide) hf, by decide, by decide⟩
  · exact ⟨"str", by simp, PyProof.Rows.boot_str, sx.free _ (by decide) hf, by decide, by decide⟩
  · exact ⟨"tuple", by simp, PyProof.Rows.boot_tuple, sx.free _ (by decide) hf, by decide, by decide⟩
  · exact ⟨"list", by simp, PyProof.Rows.boot_list, sx.free _ (by decide) hf, by decide, by decide⟩
theorem isa_key {C : EC} {m : Rho → M D} {u : Ty} {σ : L2.St} {H : Hp} {Q : VK} (h : tD C (fun ρ => (m ρ).bind fun x => okd (.bool (isaD u x))) σ H Q) : tR C m σ H fun v H1 => ∃ A d, AOk A H1 ∧ Rep0 A C.K H1 v d ∧ Wd C.K A H1 Q (.d (.bool (isaD u d))) := by
  obtain ⟨A, ρ, env, hs⟩ := h
  have hs : ((m ρ).bind _).Sat _ _ := hs
  rw [M.sat_bind] at hs
  exact ⟨A, ρ, env, hs.mono (fun d hd A1 v H1 g r => ⟨A1, d, g.ok, r, fun A2 w H2 g2 r2 => hd A2 w H2 (g.trans g2) r2⟩) fun _ _ z => z⟩
theorem pe_isa {a : Expr} {t : Str} {u : Ty} {T : String} {q q2 p : Pos} {ta : TE} (hg : Gl X "isinstance") (hm : X.mg "isinstance" = none) (hg2 : Gl X t) (hm2 : X.mg t = none) (hb : bootBuiltins t = some (.type T)) (hn : t ≠ "__name__") (hd : (t == ("__debug__" : Str)) = false)
    (hT : u = .int ∧ T = "int" ∨ u = .bool ∧ T = "bool" ∨ u = .str ∧ T = "str" ∨ u = .tuple ∧ T = "tuple" ∨ u = .list ∧ T = "list") (ns : noStar [a] = true) (ha : PE X a ta) :
    PE X (.Call (.Name "isinstance" q) [a, .Name t q2] [] p) (fun σ H Q => ta σ H fun v H1 => ∃ A d, AOk A H1 ∧ Rep0 A X.K H1 v d ∧ Wd X.K A H1 Q (.d (.bool (isaD u d)))) := by
  have na := star_cons (es := [.Name t q2]) (env := X.env) (noStar_head ns)
  refine ⟨fun pins s σ H Q I h => ?_⟩
  refine Call_ (ld_blt I hg hm boot_isi' ?_)
  refine PyProof.Rows.callWith_builtin1 (PyProof.Rows.args_cons ?_ na) na rfl
  refine thn (ha.run pins s σ H _ I h) fun v s1 ⟨x, H1, I1, r1, q1⟩ => PyProof.Rows.args_cons (ld_blt I1 hg2 hm2 hb (PyProof.Rows.args_nil ?_) hn hd) rfl
  obtain ⟨A, d, hA, hR, q1⟩ := q1
  obtain ⟨as, rd⟩ := hR.reads I1 r1
  exact c_isa I1 rd hA hT q1
theorem step_B (S : Snd n call k) {x : Str} {args : List Expr} {q p : Pos} {ex : Ex} (h : trB (k + 1) tc x args = some ex) (hgl : isGlob tc x = true) (hfn : tc.fns.lookup x = none) (sx : SX X tc n call) :
    PE X (.Call (.Name x q) args [] p) (tD (C0 X.K H0) (evalE call ex)) ∧ (isFresh ex = true → PE X (.Call (.Name x q) args [] p) (tF (C0 X.K H0) (evalE call ex))) := by
  have h : (if x = "isinstance" then (isaArg tc args).bind fun au => (trR k tc au.1).map fun x => Ex.isa x au.2
    else (match isLenSet tc x args with
      | some a => (trR k tc a).map fun x => .blt .lenset (.cons x .nil)
      | none => (bfOf x).bind fun b => if args.isEmpty then none else (trM k tc args).map fun xs => .blt b (exsOf xs))) = some ex := h
  by_cases hx : x = "isinstance"
  · rw [if_pos hx] at h
    subst hx
    obtain ⟨⟨a, u⟩, h1, h⟩ := bindO h
    obtain ⟨y, h2, rfl⟩ := mapO h
    obtain ⟨t, q2, rfl, hg2, hf2, ht⟩ := isaArg_eq h1
    obtain ⟨T, hT, hb, hm2, hn, hd⟩ := ty_facts sx ht hf2
    exact ⟨PE.imp (pe_isa (sx.gl hgl) (sx.free _ (by decide) hfn) (sx.gl hg2) hm2 hb hn hd hT (noStar_cons (trR_notStar h2) rfl) (S.R h2 H0 sx)) fun σ H Q hh => isa_key (C := C0 X.K H0) hh, fun hf => nomatch hf⟩
  · rw [if_neg hx] at h
    cases hl : isLenSet tc x args with
    | some a =>
      rw [hl] at h
      have h : (trR k tc a).map (fun x => Ex.blt .lenset (.cons x .nil)) = some ex := h
      obtain ⟨y, h1, rfl⟩ := mapO h
      obtain ⟨g, q2, p2, rfl, rfl, rfl, hg2, hf2⟩ := isLen_eq hl
      refine ⟨PE.imp (pe_lenset (sx.gl hgl) (sx.free _ (by decide) hfn) (sx.gl hg2) (sx.free _ (by decide) hf2) sx.calm (noStar_cons (trR_notStar h1) rfl) (S.R h1 H0 sx)) fun σ H Q hh => lenset_key (C := C0 X.K H0) hh, fun hf => nomatch hf⟩
    | none =>
      rw [hl] at h
      have h : (bfOf x).bind (fun b => if args.isEmpty then none else (trM k tc args).map fun xs => Ex.blt b (exsOf xs)) = some ex := h
      obtain ⟨b, h1, h⟩ := bindO h
      cases args with
      | nil => cases h
      | cons e es =>
        have h : (trM k tc (e :: es)).map (fun xs => Ex.blt b (exsOf xs)) = some ex := h
        obtain ⟨xs, h2, rfl⟩ := mapO h
        obtain ⟨n1, n2⟩ := S.Mm h2
        have hA := n2 H0 sx
        have st := star_cons (es := es) (env := X.env) (noStar_head n1)
        have pl : ∀ pos, (backTo pos (starEach es X.env)).any (·.1) = false := fun pos => plain_any (noStar_tail n1)
        have nf : ∀ (id : String), CallR X (.builtin id) (rDs X.K (bltD b)) → bootBuiltins x = some (.builtin id) → X.mg x = none → x ≠ "__name__" → (x == ("__debug__" : Str)) = false →
            PE X (.Call (.Name x q) (e :: es) [] p) (tD (C0 X.K H0) (evalE call (.blt b (exsOf xs)))) := fun id hc hb hm hn hd => PE.imp (pe_callB hc (sx.gl hgl) hm hb hA hn hd st (pl p)) fun σ H Q hh => blt_key (C := C0 X.K H0) hh
        have nfT : ∀ (T : String), CallR X (.type T) (rDs X.K (bltD b)) → bootBuiltins x = some (.type T) → X.mg x = none → x ≠ "__name__" → (x == ("__debug__" : Str)) = false →
            PE X (.Call (.Name x q) (e :: es) [] p) (tD (C0 X.K H0) (evalE call (.blt b (exsOf xs)))) := fun id hc hb hm hn hd => PE.imp (pe_callTy hc (sx.gl hgl) hm hb hA hn hd st (pl p)) fun σ H Q hh => blt_key (C := C0 X.K H0) hh
        rcases bf_cases h1 with ⟨rfl, rfl⟩ | ⟨rfl, rfl⟩ | ⟨rfl, rfl⟩ | ⟨rfl, rfl⟩ | ⟨rfl, rfl⟩ | ⟨rfl, rfl⟩ | ⟨rfl, rfl⟩ | ⟨rfl, rfl⟩ | ⟨rfl, rfl⟩ | ⟨rfl, rfl⟩ | ⟨rfl, rfl⟩ | ⟨rfl, rfl⟩ | ⟨rfl, rfl⟩
        · exact ⟨nf "len" c_len boot_len' (sx.free _ (by decide) hfn) (by decide) (by decide), fun hf => nomatch hf⟩
        · exact ⟨nfT "tuple" c_tuple boot_tuple' (sx.free _ (by decide) hfn) (by decide) (by decide), fun hf => nomatch hf⟩
        · have f : PE X (.Call (.Name "list" q) (e :: es) [] p) (tF (C0 X.K H0) (evalE call (.blt .list (exsOf xs)))) := PE.imp (pe_callTy c_listF (sx.gl hgl) (sx.free _ (by decide) hfn) boot_list' hA (by decide) (by decide) st (pl p)) fun σ H Q hh => blt_keyF (C := C0 X.K H0) hh
          exact ⟨PE.imp f fun σ H Q => tF_tD, fun _ => f⟩
        · have f : PE X (.Call (.Name "sorted" q) (e :: es) [] p) (tF (C0 X.K H0) (evalE call (.blt .sorted (exsOf xs)))) := PE.imp (pe_callB (c_sortedF sx.hu) (sx.gl hgl) (sx.free _ (by decide) hfn) boot_sorted' hA (by decide) (by decide) st (pl p)) fun σ H Q hh => blt_keyF (C := C0 X.K H0) hh
          exact ⟨PE.imp f fun σ H Q => tF_tD, fun _ => f⟩
        · exact ⟨nf "min" (c_min sx.calm sx.hu) boot_min' (sx.free _ (by decide) hfn) (by decide) (by decide), fun hf => nomatch hf⟩
        · exact ⟨nf "max" (c_max sx.calm sx.hu) boot_max' (sx.free _ (by decide) hfn) (by decide) (by decide), fun hf => nomatch hf⟩
        · exact ⟨nf "all" (c_all sx.calm) boot_all' (sx.free _ (by decide) hfn) (by decide) (by decide), fun hf => nomatch hf⟩
        · exact ⟨nf "any" (c_any sx.calm) boot_any' (sx.free _ (by decide) hfn) (by decide) (by decide), fun hf => nomatch hf⟩
        · exact ⟨nf "sum" (c_sum sx.calm) boot_sum' (sx.free _ (by decide) hfn) (by decide) (by decide), fun hf => nomatch hf⟩
        · exact ⟨nf "repr" (c_repr sx.gu sx.hu) boot_repr' (sx.free _ (by decide) hfn) (by decide) (by decide), fun hf => nomatch hf⟩
        · exact ⟨nfT "int" c_int PyProof.Rows.boot_int (sx.free _ (by decide) hfn) (by decide) (by decide), fun hf => nomatch hf⟩
        · exact ⟨nf "abs" c_abs boot_abs' (sx.free _ (by decide) hfn) (by decide) (by decide), fun hf => nomatch hf⟩
        · exact ⟨nf "divmod" c_divmod boot_divmod' (sx.free _ (by decide) hfn) (by decide) (by decide), fun hf => nomatch hf⟩
end
end Dv
end
section
namespace Dv
open PySem PySem.Spec PyProof.Rows L2
section
variable {X : Cx} {n : Nat} {call : CallT} {k : Nat} {tc : TC} {H0 : Hp}

theorem bind_okR {α : Type} : ∀ m : M α, (m.bind fun b => .ok b) = m
  | .ok _ => rfl
  | .exn _ _ => rfl
  | .bad => rfl
  | .draw n k => by
    show M.draw n (fun r => (k r).bind fun b => .ok b) = _
    exact congrArg (M.draw n) (funext fun r => bind_okR (k r))
theorem vs_len : ∀ (xs : List Ex) (ρ : Rho) {Q : List Val → Prop} {E : Nat → List D → Prop}, (evalVs call (exsOf xs) ρ).Sat Q E → (evalVs call (exsOf xs) ρ).Sat (fun l => Q l ∧ l.length = xs.length) E
  | [], _, _, _, h => ⟨h, rfl⟩
  | x :: xs, ρ, Q, E, h => by
    have h : ((evalE call x ρ).bind fun v => (evalVs call (exsOf xs) ρ).bind fun l => M.ok (v :: l)).Sat Q E := h
    show ((evalE call x ρ).bind fun v => (evalVs call (exsOf xs) ρ).bind fun l => M.ok (v :: l)).Sat _ E
    rw [M.sat_bind] at h ⊢
    refine h.mono (fun v hv => ?_) fun _ _ z => z
    rw [M.sat_bind] at hv ⊢
    exact (vs_len xs ρ hv).mono (fun l hl => ⟨hl.1, congrArg (· + 1) hl.2⟩) fun _ _ z => z
theorem vs_append : ∀ (xs ys : List Ex) (ρ : Rho), evalVs call (exsOf (xs ++ ys)) ρ = (evalVs call (exsOf xs) ρ).bind fun a => (evalVs call (exsOf ys) ρ).bind fun b => .ok (a ++ b)
  | [], ys, ρ => by
    show evalVs call (exsOf ys) ρ = (evalVs call (exsOf ys) ρ).bind fun b => .ok b
    exact (bind_okR _).symm
  | x :: xs, ys, ρ => by
    show ((evalE call x ρ).bind fun v => (evalVs call (exsOf (xs ++ ys)) ρ).bind fun l => M.ok (v :: l)) = ((evalE call x ρ).bind fun v => (evalVs call (exsOf xs) ρ).bind fun l => M.ok (v :: l)).bind _
    rw [M.bind_assoc]
    refine congrArg _ (funext fun v => ?_)
    rw [M.bind_assoc, vs_append xs ys ρ, M.bind_assoc]
    refine congrArg _ (funext fun a => ?_)
    rw [M.bind_assoc]
    rfl
theorem Reps.append {A : Addr → Prop} {K : PySem.W.Frag} {H : Hp} : ∀ {vs ws : List V} {xs ys : List Val}, Reps A K H vs xs → Reps A K H ws ys → Reps A K H (vs ++ ws) (xs ++ ys)
  | [], _, [], _, _, h => h
  | _ :: _, _, _ :: _, _, h, g => ⟨h.1, Reps.append h.2 g⟩
  | [], _, _ :: _, _, h, _ => h.elim
  | _ :: _, _, [], _, h, _ => h.elim
theorem pick_reps {A : Addr → Prop} {K : PySem.W.Frag} {H : Hp} {vs : List V} {xs : List Val} (h : Reps A K H vs xs) : ∀ {pm : List Nat} {Q : List Val → Prop} {E : Nat → List D → Prop}, (pickK xs pm).Sat Q E → ∃ ws, Reps A K H (pickV vs pm) ws ∧ Q ws
  | [], _, _, q => ⟨[], True.intro, q⟩
  | i :: pm, Q, E, q => by
    unfold pickK at q
    cases e : xs[i]? with
    | none => rw [e] at q; exact q.elim
    | some x =>
      rw [e] at q
      have q : ((pickK xs pm).bind fun r => M.ok (x :: r)).Sat Q E := q
      rw [M.sat_bind] at q
      obtain ⟨ws, h1, h2⟩ := pick_reps h q
      obtain ⟨v, e1, r⟩ := h.get e
      refine ⟨x :: ws, ?_, h2⟩
      have e2 : pickV vs (i :: pm) = v :: pickV vs pm := by
        unfold pickV
        rw [List.filterMap_cons, e1]
      rw [e2]
      exact ⟨r, h1⟩
theorem callG_key {K : PySem.W.Frag} {f : Nat} {xs ys : List Ex} {pm : List Nat} {σ : L2.St} {H : Hp} {Q : VK} (h : tD (C0 K H0) (evalE call (.call f (exsOf (xs ++ ys)) pm)) σ H Q) :
    tCallG xs.length ys.length K pm (call f) (tVs (C0 K H0) (evalVs call (exsOf xs))) (tVs (C0 K H0) (evalVs call (exsOf ys))) σ H Q := by
  obtain ⟨A, ρ, env, hs⟩ := h
  have hs : ((evalVs call (exsOf (xs ++ ys)) ρ).bind fun vs => (pickK vs pm).bind fun ws => call f ws).Sat _ _ := hs
  rw [vs_append, M.bind_assoc, M.sat_bind] at hs
  refine ⟨A, ρ, env, (vs_len xs ρ hs).mono (fun a ha A1 vs H1 g1 r1 => ?_) fun _ _ z => z⟩
  obtain ⟨ha, la⟩ := ha
  rw [M.bind_assoc, M.sat_bind] at ha
  refine ⟨A1, ρ, env.grow g1, (vs_len ys ρ ha).mono (fun b hb A2 zs H2 g2 r2 => ?_) fun _ _ z => z.grow g1⟩
  obtain ⟨hb, lb⟩ := hb
  have hb : ((pickK (a ++ b) pm).bind fun ws => call f ws).Sat _ _ := hb
  rw [M.sat_bind] at hb
  obtain ⟨ws, h1, h2⟩ := pick_reps (Reps.append (r1.grow g2) r2) hb
  refine ⟨by rw [r1.length, la], by rw [r2.length, lb], A2, ws, g2.ok, h1, ?_⟩
  exact (sat_quiet (K := K) (H0 := H0) (σ := σ) g2.ok (h2.mono (fun d hd => hd) fun c x z => z.grow (g1.trans g2))).mono (fun d hd A3 v H3 g3 r3 => hd A3 v H3 ((g1.trans g2).trans g3) r3) fun _ _ z => z
theorem mtOf_eq {m : Str} {t : Mt} (h : mtOf m = some t) : (m = "index" ∧ t = .index) ∨ (m = "count" ∧ t = .count) := by
  unfold mtOf at h
  repeat' split at h
  all_goals first
    | (cases h; simp_all)
    | cases h
theorem recv_base {r : Expr} {m : Str} {env : Env} (h : plainRecv r = true) : attributeBase r m env (eval r env) = eval r env := by
  cases r <;> first | rfl | cases h
theorem few_ok {es : List Expr} {pos : Pos} {env : Env} (hn : noStar es = true) (hl : es.length < 20) : ((backTo pos (starEach es env)).all (fun x => !x.1) && (backToKw pos (keywordEach [] env)).all (fun x => x.1.isSome)
      && decide (es.length + ([] : List Keyword).length + (if ([] : List Keyword).isEmpty then 0 else 1) < 30)) = true := by
  have h1 : (backTo pos (starEach es env)).all (fun x => !x.1) = true := by
    rw [List.all_eq_not_any_not]
    have := plain_any (env := env) (pos := pos) hn
    simpa using this
  rw [h1]
  have h2 : decide (es.length + ([] : List Keyword).length + (if ([] : List Keyword).isEmpty then 0 else 1) < 30) = true := decide_eq_true (by
    show es.length + 0 + 0 < 30
    omega)
  rw [h2]
  rfl
theorem mth_key {K : PySem.W.Frag} {m : Mt} {x : Ex} {xs : List Ex} {σ : L2.St} {H : Hp} {Q : VK} (h : tD (C0 K H0) (evalE call (.mth m x (exsOf xs))) σ H Q) :
    tR (C0 K H0) (fun ρ => (evalE call x ρ).bind Val.asD) σ H fun v H1 => ∃ A d, Rep0 A K H1 v d ∧ (∃ ys, seqOf d = some ys) ∧ tAs (C0 K H0) (evalDs call (exsOf xs)) σ H1 fun vs H2 => ∃ A2 ds, AOk A2 H2 ∧ Rep0 A2 K H2 v d ∧ DAs A2 K H2 vs ds ∧ (mthD m d ds).Sat (Wd K A2 H2 Q) (fun _ _ => True) := by
  obtain ⟨A, ρ, env, hs⟩ := h
  have hs : (((evalE call x ρ).bind Val.asD).bind _).Sat _ _ := hs
  rw [M.sat_bind] at hs
  refine ⟨A, ρ, env, hs.mono (fun d hd A1 v H1 g1 r1 => ?_) fun _ _ z => z⟩
  rw [M.sat_bind] at hd
  refine ⟨A1, d, r1, ?_, A1, ρ, env.grow g1, hd.mono (fun ds hds A2 vs H2 g2 r2 => ?_) fun _ _ z => z.grow g1⟩
  · obtain ⟨ds, hds⟩ := (sat_quiet (K := K) (H0 := H0) (σ := σ) env.aok hd).ex
    cases e : seqOf d with
    | some ys => exact ⟨ys, rfl⟩
    | none =>
      exfalso
      match m, ds, hds with
      | .index, [y], hds =>
        simp only [mthD, e] at hds
        exact hds
      | .count, [y], hds =>
        simp only [mthD, e] at hds
        exact hds
      | .index, [], h => exact h.elim
      | .index, _ :: _ :: _, h => exact h.elim
      | .count, [], h => exact h.elim
      | .count, _ :: _ :: _, h => exact h.elim
  · exact ⟨A2, ds, g2.ok, r1.grow g2, r2, hds.mono (fun d q A3 u H3 g3 r3 => q A3 u H3 ((g1.trans g2).trans g3) r3) fun _ _ _ => trivial⟩
theorem pe_mth {r : Expr} {nm : Str} {m : Mt} {apos p : Pos} {args : List Expr} {t : TE} {ta : TA} (hm : mtOf nm = some m) (hb : plainRecv r = true) (hl : (apos.endLine == p.line) = true) (hn : noStar args = true) (hne : args ≠ []) (hf : args.length < 20) (hu : X.A.units + 100 < cLine) (hr : PE X r t) (ha : PA X args ta) :
    PE X (.Call (.Attribute r nm apos) args [] p) (fun σ H Q => t σ H fun v H1 => ∃ A d, Rep0 A X.K H1 v d ∧ (∃ ys, seqOf d = some ys) ∧ ta σ H1 fun vs H2 => ∃ A2 ds, AOk A2 H2 ∧ Rep0 A2 X.K H2 v d ∧ DAs A2 X.K H2 vs ds ∧ (mthD m d ds).Sat (Wd X.K A2 H2 Q) (fun _ _ => True)) := by
  refine ⟨fun pins s σ H Q I h => ?_⟩
  refine wpAny_Call_method_late (recv_base hb) (few_ok hn hf) hl rfl (thn (hr.run pins s σ H _ I h) fun v s1 ⟨x, H1, I1, r1, A, d, hx, ⟨ys, hy⟩, q1⟩ => ?_)
  have fin : wpAny (model X.prog X.w) X.A (callWith p (.builtin (mtId m d)) [v] (backTo p (starEach args X.env)) []) (EP X pins σ Q) X.xe s1 := by
    refine Calls.callWith_builtin (plain_any hn) ?_
    have hA := ha.run p pins s1 σ H1 _ I1 q1
    cases args with
    | nil => exact absurd rfl hne
    | cons e es =>
      rw [star_cons (noStar_head hn)] at hA ⊢
      refine Calls.evalArgs_plain (thn hA fun us s2 ⟨vs, H2, I2, r2, A2, ds, hA, hx2, hd, q2⟩ => ?_)
      exact c_mth hu I2 hA hx2 r1 hd r2 q2
  cases d with
  | list zs =>
    obtain ⟨a, ws, rfl, hq, hr⟩ := hx.list
    cases r1
    obtain ⟨its, r', ⟨o, n, e1, e2, e3, e4⟩, hz⟩ := I1.list hq
    have hT : s1.TypeIs (.ref a) "list" := ⟨o, e1, e2⟩
    have hD : ∀ b, Value.ref a = .ref b → ∃ ob, s1.heap.get? b = some ob ∧ ob.dict = none := fun b e => by
      cases e
      exact ⟨o, e1, e3⟩
    rcases mtOf_eq hm with ⟨rfl, rfl⟩ | ⟨rfl, rfl⟩
    · exact ⟨"list", _, PySem.F.plainAttrs_list, PySem.F.slot_list_index, PySem.F.type_list_index, hT, hD, fin⟩
    · exact ⟨"list", _, PySem.F.plainAttrs_list, PySem.F.slot_list_count, PySem.F.type_list_count, hT, hD, fin⟩
  | tuple zs =>
    obtain ⟨a, ws, rfl, hq, hr⟩ := hx.tuple
    cases r1
    have hz : ∃ o, s1.heap.get? a = some o ∧ o.cls = .type "tuple" ∧ o.dict = none := by
      rcases hq with ⟨o, e, d⟩ | ⟨o, its, n, k, c, d, _⟩
      · obtain ⟨e1, _, its, _, o2, e2, e3, _⟩ := (show ObjOk X.prog X.w H1 s1.heap a (.frz o (.tup ws)) from I1.hok a _ e)
        rw [e1] at e2
        cases e2
        exact ⟨o, e1, e3, d⟩
      · exact ⟨o, I1.kIn a o k, c, d⟩
    obtain ⟨o, e1, e2, e3⟩ := hz
    have hT : s1.TypeIs (.ref a) "tuple" := ⟨o, e1, e2⟩
    have hD : ∀ b, Value.ref a = .ref b → ∃ ob, s1.heap.get? b = some ob ∧ ob.dict = none := fun b e => by
      cases e
      exact ⟨o, e1, e3⟩
    rcases mtOf_eq hm with ⟨rfl, rfl⟩ | ⟨rfl, rfl⟩
    · exact ⟨"tuple", _, PySem.F.plainAttrs_tuple, PySem.F.slot_tuple_index, PySem.F.type_tuple_index, hT, hD, fin⟩
    · exact ⟨"tuple", _, PySem.F.plainAttrs_tuple, PySem.F.slot_tuple_count, PySem.F.type_tuple_count, hT, hD, fin⟩
  | _ => cases hy
theorem fresh_call {f : Nat} {es : Exs} {pm : List Nat} : isFresh (.call f es pm) = true → False := fun h => nomatch h
theorem step_Ca (S : Snd n call k) {f : Expr} {args : List Expr} {kws : List Keyword} {p : Pos} {ex : Ex} (h : trCall (k + 1) tc f args kws p = some ex) (sx : SX X tc n call) :
    PE X (.Call f args kws p) (tD (C0 X.K H0) (evalE call ex)) ∧ (isFresh ex = true → PE X (.Call f args kws p) (tF (C0 X.K H0) (evalE call ex))) := by
  cases f with
  | Name x q =>
    have h : (if isGlob tc x then (match tc.fns.lookup x with
      | some (k', ps) => (trL k tc args).bind fun xs => (kwNames kws).bind fun ks => (trL k tc (kws.map fun k => k.value)).bind fun ys => (permOf ps args.length ks).map fun pm => Ex.call k' (exsOf (xs ++ ys)) pm
      | none => if kws.isEmpty then trB k tc x args else none) else none) = some ex := h
    cases hgl : isGlob tc x with
    | false => rw [hgl] at h; cases h
    | true =>
      rw [hgl, if_pos rfl] at h
      cases hf : tc.fns.lookup x with
      | none =>
        rw [hf] at h
        cases kws with
        | cons _ _ => cases h
        | nil =>
          have h : trB k tc x args = some ex := h
          exact S.B h hgl hf H0 sx
      | some v =>
        obtain ⟨k', ps⟩ := v
        rw [hf] at h
        have h : (trL k tc args).bind (fun xs => (kwNames kws).bind fun ks => (trL k tc (kws.map fun k => k.value)).bind fun ys => (permOf ps args.length ks).map fun pm => Ex.call k' (exsOf (xs ++ ys)) pm) = some ex := h
        obtain ⟨xs, h1, h⟩ := bindO h
        obtain ⟨ks, h2, h⟩ := bindO h
        obtain ⟨ys, h3, h⟩ := bindO h
        obtain ⟨pm, h4, rfl⟩ := mapO h
        obtain ⟨f, fd, hdb, hmg, hke, hpl, hG⟩ := sx.fn x k' ps hf
        obtain ⟨l1, l2, l3⟩ := S.L h1
        obtain ⟨p1, _⟩ := l3 H0 sx
        have pk := S.Kw h3 H0 sx
        obtain ⟨_, l4, _⟩ := S.L h3
        have e4 : ys.length = kws.length := by rw [l4, List.length_map]
        refine ⟨?_, fun z => nomatch z⟩
        cases args with
        | nil =>
          have e0 : xs = [] := List.eq_nil_of_length_eq_zero l2
          subst e0
          refine PE.imp (pe_callG0 hG sx.room sx.gu (sx.gl hgl) hdb hmg hke hpl h2 (perm_ok h4) pk) fun σ H Q hh => ?_
          have hh := callG_key hh
          rw [e4] at hh
          obtain ⟨A, ρ, env, hs⟩ := hh
          exact hs A [] H (Grow.refl env.aok) trivial
        | cons e es =>
          refine PE.imp (pe_callG hG sx.room sx.gu (sx.gl hgl) hdb hmg hke hpl h2 (perm_ok h4) l1 (fun z => nomatch z) p1 pk) fun σ H Q hh => ?_
          have hh := callG_key hh
          rw [e4, l2] at hh
          exact hh
  | Attribute r m ap =>
    have h : (if kws.isEmpty && (plainRecv r && (decide (ap.endLine = p.line) && (Nat.blt args.length 20 && !args.isEmpty))) then (mtOf m).bind fun t => (trR k tc r).bind fun x => (trL k tc args).map fun xs => Ex.mth t x (exsOf xs) else none) = some ex := h
    cases kws with
    | cons _ _ => cases h
    | nil =>
      cases hc : ([] : List Keyword).isEmpty && (plainRecv r && (decide (ap.endLine = p.line) && (Nat.blt args.length 20 && !args.isEmpty))) with
      | false => rw [hc] at h; cases h
      | true =>
        rw [hc, if_pos rfl] at h
        obtain ⟨_, c⟩ := ba hc
        obtain ⟨c1, c⟩ := ba c
        obtain ⟨c2, c⟩ := ba c
        obtain ⟨c3, c4⟩ := ba c
        have hne : args ≠ [] := fun z => by subst z; cases c4
        obtain ⟨t, h1, h⟩ := bindO h
        obtain ⟨x, h2, h⟩ := bindO h
        obtain ⟨xs, h3, rfl⟩ := mapO h
        obtain ⟨l1, l2, l3⟩ := S.L h3
        obtain ⟨_, p2, _⟩ := l3 H0 sx
        have hl : (ap.endLine == p.line) = true := by rw [of_decide_eq_true c2]; exact beq_self_eq_true _
        have hlt : args.length < 20 := Nat.le_of_ble_eq_true (show Nat.ble (args.length + 1) 20 = true from c3)
        exact ⟨PE.imp (pe_mth h1 c1 hl l1 hne hlt sx.hu (S.R h2 H0 sx) p2) fun σ H Q hh => mth_key hh, fun z => nomatch z⟩
  | _ => exact (nomatch (show (none : Option Ex) = some ex from h))
end
end Dv
end
section
namespace Dv
open PySem PySem.Spec PyProof.Rows L2 HT
section
variable {prog : Program} {w : World} {Ar : Around} {E : Value → Shared → Prop} {s : Shared}
theorem back_adjust (n : Nat) : Builtin.Slice.sliceAdjust none none (-1) (n : Int) = ((n : Int) - 1, -1) := rfl
theorem back_places (n : Nat) : Builtin.Slice.slicePlaces ((n : Int) - 1) (-1) (-1) = n := by
  unfold Builtin.Slice.slicePlaces
  rw [if_neg (by decide)]
  by_cases h : (n : Int) - 1 > -1
  · rw [if_pos h]
    have e : ((n : Int) - 1 - -1 - 1) / (- -1) = (n : Int) - 1 := by
      rw [show (- -1 : Int) = 1 by decide, Int.ediv_one]
      omega
    rw [e]
    omega
  · rw [if_neg h]
    omega
theorem fm_congr {α β : Type} {f g : α → Option β} : ∀ {l : List α}, (∀ x ∈ l, f x = g x) → l.filterMap f = l.filterMap g
  | [], _ => rfl
  | a :: l, h => by
    rw [List.filterMap_cons, List.filterMap_cons, h a List.mem_cons_self, fm_congr fun x hx => h x (List.mem_cons_of_mem _ hx)]
theorem back_pick (xs : Array Value) : ((List.range xs.size).filterMap fun (k : Nat) => xs[((xs.size : Int) - 1 + (k : Int) * -1).toNat]?) = xs.toList.reverse := by
  have e1 : ∀ k ∈ List.range xs.size, ((xs.size : Int) - 1 + (k : Int) * -1).toNat = xs.size - 1 - k := by
    intro k hk
    have := List.mem_range.mp hk
    omega
  have e2 : ((List.range xs.size).filterMap fun (k : Nat) => xs[((xs.size : Int) - 1 + (k : Int) * -1).toNat]?) = ((List.range xs.size).map fun k => xs.size - 1 - k).filterMap (xs[·]?) := by
    rw [List.filterMap_map]
    refine fm_congr fun k hk => ?_
    rw [e1 k hk]
    rfl
  rw [e2, PySem.W.krv_range, List.filterMap_reverse, PySem.W.krv_all]
theorem back_applied {sl : Addr} {vl vu vs : Value} {n : Nat} {Q : Int × Int × Nat → Shared → Prop} (hs : s.heap.IsSliceOf sl vl vu vs) (pl : IsPart vl none) (pu : IsPart vu none) (ps : IsPart vs (some (-1)))
    (h : Q ((n : Int) - 1, -1, n) s) : wpAny (model prog w) Ar (Builtin.Slice.sliceApplied (.ref sl) (pure (n : Int))) Q E s := by
  obtain ⟨ob, hob, hcl, hdt⟩ := id hs
  unfold Builtin.Slice.sliceApplied Builtin.Slice.sliceFields
  refine wpAny_bind (wpAny_bind (wpAny_field hob hdt (x := vl) rfl (wpAny_bind (wpAny_field hob hdt (x := vu) rfl (wpAny_bind (wpAny_field hob hdt (x := vs) rfl (wpAny_pure ?_)))))))
  refine wpAny_bind (slicePart_ ps ?_)
  show wpAny _ _ (if ((-1 : Int) == 0) = true then _ else _) _ _ s
  rw [if_neg (by decide)]
  refine wpAny_bind (slicePart_ pl (wpAny_bind (slicePart_ pu (wpAny_bind (wpAny_pure ?_)))))
  show wpAny _ _ (match Builtin.Slice.sliceAdjust none none (-1) (n : Int) with | (lo, hi) => pure (lo, (-1 : Int), Builtin.Slice.slicePlaces lo hi (-1))) _ _ s
  rw [back_adjust n]
  show wpAny _ _ (pure ((n : Int) - 1, (-1 : Int), Builtin.Slice.slicePlaces ((n : Int) - 1) (-1) (-1))) _ _ s
  rw [back_places]
  exact wpAny_pure h
theorem back_tuple {t sl : Addr} {items : Array Value} {vl vu vs : Value} {Q : Value → Shared → Prop} (ht : IsTup s.heap t items) (hs : s.heap.IsSliceOf sl vl vu vs) (pl : IsPart vl none) (pu : IsPart vu none) (ps : IsPart vs (some (-1))) (hz : items.size ≤ sizeLine)
    (h : Q (.ref s.heap.objs.size) { s with heap := s.heap.push { cls := .type "tuple", data := .seq items.toList.reverse.toArray } }) : wpAny (model prog w) Ar (getItem (.ref t) (.ref sl)) Q E s := by
  have hzz : sizeOk (.seq items.toList.reverse.toArray) := by
    show items.toList.reverse.toArray.size ≤ sizeLine
    rw [List.size_toArray, List.length_reverse, Array.length_toList]
    exact hz
  obtain ⟨ob, hob, hcl, hdt⟩ := id hs
  have hty : s.TypeIs (.ref sl) "slice" := ⟨ob, hob, hcl⟩
  unfold getItem
  try with_reducible refine wpAny_holding ?_
  first | refine wpAny_bind (wpAny_pure ?_) | skip
  refine wpAny_bind (wpAny_sequenceKey ht.typeIs (by decide) ?_)
  refine wpAny_bind (wpAny_callSpecial?_slot (name := Str.ofString "__getitem__") ht.typeIs PyProof.Rows.slot_tuple_getitem
    (wpAny_call_entry PyProof.Rows.slot_tuple_getitem ht.typeIs entry_tuple_getitem ?_ (args_tuple_getitem _ _)))
  show wpAny _ _ (Builtin.Tuple.tupleItemsOf (.ref t) >>= _) _ _ s
  refine wpAny_bind (tupleItemsOf_ ht ?_)
  refine wpAny_bind (wpAny_typeOf hty ?_)
  rw [if_pos (by decide)]
  refine wpAny_bind (back_applied hs pl pu ps ?_)
  have hno : ¬ ((((items.size : Int) - 1 == 0) && ((-1 : Int) == 1) && (items.size == items.size)) = true) := by
    rw [show ((-1 : Int) == 1) = false by decide, Bool.and_false, Bool.false_and]
    exact Bool.false_ne_true
  show wpAny _ _ (if (((items.size : Int) - 1 == 0) && ((-1 : Int) == 1) && (items.size == items.size)) = true then _ else _) _ _ s
  rw [if_neg hno, back_pick]
  first
    | exact wpAny_bind (m := Builtin.Tuple.tupleExact _) (wpAny_newObj_type (wpAny_pure ⟨_, rfl, wpAny_pure h⟩) hzz)
    | exact wpAny_bind (m := Builtin.Tuple.tupleExact _) (wpAny_newObj_type (wpAny_bind (wpAny_pure (wpAny_pure ⟨_, rfl, wpAny_pure h⟩))) hzz)
    | exact wpAny_bind (wpAny_bind (m := Builtin.Tuple.tupleExact _) (wpAny_newObj_type (wpAny_pure (wpAny_pure ⟨_, rfl, wpAny_pure h⟩)) hzz))
    | exact wpAny_bind (wpAny_bind (m := Builtin.Tuple.tupleExact _) (wpAny_newObj_type (wpAny_pure ⟨_, rfl, wpAny_pure h⟩) hzz))
end
section
variable {X : Cx} {n : Nat} {call : CallT} {k : Nat} {tc : TC} {H0 : Hp}
theorem pe_revT {e : Expr} {te : TE} {kd : Nat} {p1 p2 p3 pos : Pos} (he : PE X e te) : PE X (.Subscript e (.Slice none none (some (.UnaryOp .USub (.Constant (.int 1) kd p1) p2)) p3) pos)
    (fun σ H Q => te σ H fun x H1 => ∃ A d E, AOk A H1 ∧ Rep0 A X.K H1 x d ∧ (revD d).Sat (Wd X.K A H1 Q) E) := by
  refine ⟨fun pins s σ H Q I h => ?_⟩
  refine Subscript_ (thn (he.run pins s σ H _ I h) fun v s1 ⟨x, H1, I1, r1, A, d, E, hA, hx, hs⟩ => ?_)
  have hst : PO X (some (.UnaryOp .USub (.Constant (.int 1) kd p1) p2)) (tPart (tUn (rU fun i => .int (-i)) (tC (.int 1)))) := po_some (pe_un un_neg pe_int)
  refine wpAny_Slice (thn (po_none.run pins s1 σ H1 (fun o G => o = none ∧ G = H1) I1 ⟨rfl, rfl⟩) fun vl s2 ⟨l, H2, I2, pl, el, e2⟩ => ?_)
  cases el
  cases e2
  refine thn (po_none.run pins s2 σ H1 (fun o G => o = none ∧ G = H1) I2 ⟨rfl, rfl⟩) fun vu s3 ⟨u, H3, I3, pu, eu, e3⟩ => ?_
  cases eu
  cases e3
  refine thn (hst.run pins s3 σ H1 (fun o G => o = some (-1) ∧ G = H1) I3 ⟨1, rfl, -1, rfl, rfl, rfl⟩) fun vs s4 ⟨o, H4, I4, ps, eo, e4⟩ => ?_
  cases eo
  cases e4
  have I5 : Inv X pins σ H1 { s4 with heap := s4.heap.push { cls := .type "slice", data := .fields #[vl, vu, vs] } } := I4.kept (t' := s4.toks) fun b ob q => Heap.get?_push_of_some _ q
  cases d with
  | tuple ds =>
    obtain ⟨a, xs, rfl, hq, hr⟩ := hx.tuple
    cases r1
    obtain ⟨its, r, ht, hz⟩ := I5.tuple hq.sq
    have hlen := r.length
    show wpAny (model X.prog X.w) X.A (subscriptTail e (.Slice none none (some (.UnaryOp .USub (.Constant (.int 1) kd p1) p2)) p3) (.ref a) (.ref s4.heap.objs.size)) (EP X pins σ Q) X.xe { s4 with heap := s4.heap.push { cls := .type "slice", data := .fields #[vl, vu, vs] } }
    refine tail_any (ops := [.ref a, .ref s4.heap.objs.size]) ht.typeIs PyProof.Rows.slot_tuple_getitem.lookup ?_ (by with_unfolding_all rfl)
    refine back_tuple ht (Heap.IsSliceOf.new _ vl vu vs) pl pu ps (by rw [List.size_toArray]; omega) ?_
    have hz2 : xs.reverse.length ≤ sizeLine := by rw [List.length_reverse]; exact hz
    have hf := I5.hok.fresh (Nat.le_refl _)
    exact ⟨.ref _, _, tupNew (tk := s4.toks) I5 (fun b ob q => Heap.get?_push_of_some _ q) (Nat.le_refl _) (Heap.get?_push_size _ rfl) rfl rfl r.reverse hz2, rfl, wd_tup hA hs hf (by rfl) hr.rev⟩
  | _ => exact hs.elim
theorem rev_key {C : EC} {m : Rho → M D} {σ : L2.St} {H : Hp} {Q : VK} (h : tD C (fun ρ => (m ρ).bind revD) σ H Q) : tR C m σ H fun x H1 => ∃ A d E, AOk A H1 ∧ Rep0 A C.K H1 x d ∧ (revD d).Sat (Wd C.K A H1 Q) E := by
  obtain ⟨A, ρ, env, hs⟩ := h
  have hs : ((m ρ).bind _).Sat _ _ := hs
  rw [M.sat_bind] at hs
  exact ⟨A, ρ, env, hs.mono (fun d hd A1 v H1 g r => ⟨A1, d, _, g.ok, r, hd.mono (fun d q A2 w H2 g2 r2 => q A2 w H2 (g.trans g2) r2) fun _ _ z => z⟩) fun _ _ z => z⟩
theorem step_Sb (S : Snd n call k) {a i : Expr} {p : Pos} {ex : Ex} (h : trSub (k + 1) tc a i = some ex) (sx : SX X tc n call) : PE X (.Subscript a i p) (tD (C0 X.K H0) (evalE call ex)) := by
  have plain : (∀ x y z q, i ≠ .Slice x y z q) → (trR k tc a).bind (fun x => (trE k tc i).map fun y => Ex.idx x y) = some ex → PE X (.Subscript a i p) (tD (C0 X.K H0) (evalE call ex)) := fun hni h => by
    obtain ⟨x, h1, h⟩ := bindO h
    obtain ⟨y, h2, rfl⟩ := mapO h
    refine PE.imp (pe_ix ix_D (S.R h1 H0 sx) (S.E h2 H0 sx) (plainIx hni)) fun σ H Q hh => ?_
    obtain ⟨A, ρ, env, hs⟩ := hh
    have hs : (((evalE call x ρ).bind Val.asD).bind fun x => ((evalE call y ρ).bind asI).bind fun k => idxD x k).Sat _ _ := hs
    rw [M.sat_bind] at hs
    refine ⟨A, ρ, env, hs.mono (fun d hd A1 v H1 g1 r1 => ?_) fun _ _ z => z⟩
    rw [M.bind_assoc, M.sat_bind] at hd
    refine ⟨A1, ρ, env.grow g1, hd.mono (fun e he A2 w H2 g2 r2 => ?_) fun _ _ z => z.grow g1⟩
    rw [M.sat_bind] at he
    obtain ⟨j, rfl, hj⟩ := asI_sat he
    cases r2
    exact ⟨A2, d, j, _, g2.ok, r1.grow g2, rfl, hj.mono (fun d q A3 u H3 g3 r3 => q A3 u H3 ((g1.trans g2).trans g3) r3) fun _ _ z => z⟩
  cases i with
  | Slice lo hi st q =>
    cases st with
    | none =>
      have h : (trR k tc a).bind (fun x => (trO k tc lo).bind fun l => (trO k tc hi).map fun h => Ex.slc x l h) = some ex := h
      obtain ⟨x, h1, h⟩ := bindO h
      obtain ⟨l, h2, h⟩ := bindO h
      obtain ⟨u, h3, rfl⟩ := mapO h
      refine PE.imp (pe_slice sl_D (S.R h1 H0 sx) (S.O h2 H0 sx) (S.O h3 H0 sx)) fun σ H Q hh => ?_
      obtain ⟨A, ρ, env, hs⟩ := hh
      have hs : (((evalE call x ρ).bind Val.asD).bind fun x => (evalO call l ρ).bind fun l => (evalO call u ρ).bind fun h => slcD x l h).Sat _ _ := hs
      rw [M.sat_bind] at hs
      refine ⟨A, ρ, env, hs.mono (fun d hd A1 v H1 g1 r1 => ?_) fun _ _ z => z⟩
      rw [M.sat_bind] at hd
      refine ⟨A1, ρ, env.grow g1, hd.mono (fun l2 hl A2 H2 g2 => ?_) fun _ _ z => z.grow g1⟩
      rw [M.sat_bind] at hl
      refine ⟨A2, ρ, env.grow (g1.trans g2), hl.mono (fun u2 hu A3 H3 g3 => ?_) fun _ _ z => z.grow (g1.trans g2)⟩
      exact ⟨A3, d, _, g3.ok, (r1.grow g2).grow g3, hu.mono (fun d q A4 u H4 g4 r4 => q A4 u H4 (((g1.trans g2).trans g3).trans g4) r4) fun _ _ z => z⟩
    | some st =>
      have h : (if isRev lo hi st then (trR k tc a).map Ex.rev else none) = some ex := h
      cases hr : isRev lo hi st with
      | false => rw [hr] at h; cases h
      | true =>
        rw [hr, if_pos rfl] at h
        obtain ⟨x, h1, rfl⟩ := mapO h
        have z : lo = none ∧ hi = none ∧ ∃ kd p1 p2, st = .UnaryOp .USub (.Constant (.int 1) kd p1) p2 := by
          unfold isRev at hr
          split at hr
          · exact ⟨rfl, rfl, _, _, _, rfl⟩
          · cases hr
        obtain ⟨rfl, rfl, kd, p1, p2, rfl⟩ := z
        exact PE.imp (pe_revT (S.R h1 H0 sx)) fun σ H Q hh => rev_key (C := C0 X.K H0) hh
  | _ => exact plain (fun _ _ _ _ z => nomatch z) h
end
end Dv
end
section
namespace Dv
open PySem PySem.Spec PyProof.Rows L2
section
variable {X : Cx} {n : Nat} {call : CallT} {k : Nat} {tc : TC} {H0 : Hp}
/-- a name that this block may set -/
def NmOk (X : Cx) (x : Str) : Prop := Loc X.env.scope x ∧ (X.fn x = true ∨ X.env.scope.names.lookup x = some .local)
theorem slotL_of {x : Str} {i : Nat} (h : slotL tc x = some i) : slotOf tc x = some i ∧ tc.sc.names.lookup x ≠ some .free := by
  unfold slotL at h
  split at h
  · cases h
  · exact ⟨h, by assumption⟩
theorem slotOf_get {x : Str} {i : Nat} (h : slotOf tc x = some i) : tc.N[i]? = some x := by
  unfold slotOf at h
  split at h
  · exact idxOf_some h
  · exact idxOf_some h
  · exact idxOf_some h
  · cases h
theorem tgs_ok (hnd : X.N.Nodup) (hN : X.N = tc.N) : ∀ {es : List Expr} {is : List Nat}, seqO (es.map (nmSlot tc)) = some is → (∀ x i, slotL tc x = some i → i ∈ is → NmOk X x) →
    PGs X es (gNames is) ∧ (assignEach es X.env).length = is.length ∧ (assignEach es X.env).findIdx? (·.1) = none
  | [], is, h, _ => by
    cases h
    exact ⟨pgs_nil, rfl, rfl⟩
  | e :: es, is, h, ok => by
    rw [List.map_cons] at h
    cases e1 : nmSlot tc e with
    | none => rw [e1] at h; cases h
    | some i =>
      rw [e1] at h
      have h : (seqO (es.map (nmSlot tc))).map (i :: ·) = some is := h
      obtain ⟨js, h2, rfl⟩ := mapO h
      cases e with
      | Name x p =>
        have e1 : slotL tc x = some i := e1
        obtain ⟨p1, p2, p3⟩ := tgs_ok hnd hN h2 fun x i h m => ok x i h (List.mem_cons_of_mem _ m)
        have no := ok x i e1 List.mem_cons_self
        refine ⟨pgs_cons (pg_name hnd (by rw [hN]; exact slotOf_get (slotL_of e1).1) no.1 no.2) p1, congrArg (· + 1) p2, ?_⟩
        show ((false, assign (.Name x p) X.env) :: assignEach es X.env).findIdx? (·.1) = none
        rw [List.findIdx?_cons, p3]
        rfl
      | _ => cases e1
theorem tg_ok (hnd : X.N.Nodup) (hN : X.N = tc.N) (hc : X.calm = true) {e : Expr} {g : Tg} (h : trTg tc e = some g) (ok : ∀ x i, slotL tc x = some i → i ∈ tgSlots g → NmOk X x) : PG X e (tG (C0 X.K H0) g) := by
  cases e with
  | Name x p =>
    have h : (slotL tc x).map Tg.nm = some g := h
    obtain ⟨i, h1, rfl⟩ := mapO h
    have no := ok x i h1 List.mem_cons_self
    exact pg_nm hnd (by rw [hN]; exact slotOf_get (slotL_of h1).1) no.1 no.2
  | Tuple es kd p =>
    have h : (seqO (es.map (nmSlot tc))).map Tg.tp = some g := h
    obtain ⟨is, h1, rfl⟩ := mapO h
    obtain ⟨p1, p2, p3⟩ := tgs_ok hnd hN h1 ok
    refine PG.imp (pg_tup hc p1 p2 p3) fun v σ H Q hh => ?_
    obtain ⟨A, ρ, x, env, hd, hs⟩ := hh
    cases x with
    | tuple xs =>
      have hs : (if is.length = xs.length then M.ok ((is.zip xs).foldl (fun ρ p => ρ.set p.1 (some (.v (.d p.2)))) ρ) else .bad).Sat _ _ := hs
      by_cases hl : is.length = xs.length
      · rw [if_pos hl] at hs
        cases hd with
        | tup hq hr => exact ⟨_, _, rfl, hq.sq, by rw [hr.length, hl], names_ok env hr hl fun σ2 e2 w => hs σ2 e2 fun vs hv => w vs hv⟩
      · rw [if_neg hl] at hs
        exact hs.elim
    | _ => exact hs.elim
  | _ => exact (nomatch (show (none : Option Tg) = some g from h))
/-- what stands around a block -/
theorem SX.blk (sx : SX X tc n call) (s : Shared) (H : Hp) (scope : Scope) (C : Addr) (cl : List (Str × Addr)) (fp : List Addr) : SX (X.blk s H scope (compEnvC scope cl C X.env) fp) { tc with sc := relS scope tc.sc } n call where
  N := sx.N
  nd := sx.nd
  dbg := sx.dbg
  sc := by
    show relS scope X.env.scope = relS scope tc.sc
    rw [sx.sc]
  calm := sx.calm
  room := sx.room
  gu := sx.gu
  pass := PassesOwn.never
  free := sx.free
  cons := sx.cons
  fn := sx.fn
theorem own_mem {N : List Str} {scope : Scope} {i : Nat} (h : i ∈ (ownOf N scope).map (·.2)) : ∃ y k, (y, k) ∈ scope.names ∧ N[i]? = some y ∧ (k = .local ∨ k = .cell) := by
  obtain ⟨p, hp, rfl⟩ := List.mem_map.mp h
  unfold ownOf at hp
  obtain ⟨⟨y, k⟩, hy, e⟩ := List.mem_filterMap.mp hp
  cases k with
  | «local» =>
    obtain ⟨j, e1, rfl⟩ := mapO e
    exact ⟨y, _, hy, idxOf_some e1, .inl rfl⟩
  | cell =>
    obtain ⟨j, e1, rfl⟩ := mapO e
    exact ⟨y, _, hy, idxOf_some e1, .inr rfl⟩
  | _ => cases e
theorem oneGen_eq {gs : List Comprehension} {tg iter : Expr} {ifs : List Expr} (h : oneGen gs = some (tg, iter, ifs)) : gs = [⟨tg, iter, ifs, 0⟩] := by
  unfold oneGen at h
  split at h
  · cases h
    rfl
  · cases h
theorem isRange_eq {e : Expr} {args : List Expr} (h : isRange tc e = some args) : ∃ q p, e = .Call (.Name "range" q) args [] p ∧ isGlob tc "range" = true ∧ tc.fns.lookup ("range" : Str) = none := by
  unfold isRange at h
  split at h
  · split at h
    · rename_i c
      have h := Option.some.inj h
      subst h
      obtain ⟨c1, c⟩ := ba c
      obtain ⟨c2, c3⟩ := ba c
      have := of_decide_eq_true c1
      subst this
      exact ⟨_, _, rfl, c2, by simpa using c3⟩
    · exact nomatch h
  · exact nomatch h
theorem trI_notSet {e : Expr} {ix : Ix} (h : trI k tc e = some ix) : ∀ a b p, e ≠ .Set a b p := fun a b p z => by
  subst z
  cases k with
  | zero => cases h
  | succ k =>
    have h : (trR k tc (.Set a b p)).map Ix.seq = some ix := h
    obtain ⟨x, h1, _⟩ := mapO h
    exact trR_notSet h1 a b p rfl
theorem step_I (S : Snd n call k) {e tg : Expr} {ix : Ix} (h : trI (k + 1) tc e = some ix) (sx : SX X tc n call) : PI X tg e (tIx (C0 X.K H0) (fun _ H => Same H) (evalI call ix)) := by
  have h : (match isRange tc e with
    | some [a] => (trE k tc a).map Ix.rng
    | some [a, b] => (trE k tc a).bind fun x => (trE k tc b).map fun y => .rng2 x y
    | some _ => none
    | none => (trR k tc e).map .seq) = some ix := h
  cases hr : isRange tc e with
  | none =>
    rw [hr] at h
    have h : (trR k tc e).map Ix.seq = some ix := h
    obtain ⟨x, h1, rfl⟩ := mapO h
    exact pi_seqC rfl (S.R h1 H0 sx)
  | some args =>
    rw [hr] at h
    obtain ⟨q, p, rfl, hg, hf⟩ := isRange_eq hr
    match args, h with
    | [a], h =>
      have h : (trE k tc a).map Ix.rng = some ix := h
      obtain ⟨x, h1, rfl⟩ := mapO h
      exact pi_rngD rfl (sx.gl hg) (sx.free _ (by decide) hf) (S.E h1 H0 sx) (noStar_cons (notStar h1) rfl)
    | [a, b], h =>
      have h : (trE k tc a).bind (fun x => (trE k tc b).map fun y => Ix.rng2 x y) = some ix := h
      obtain ⟨x, h1, h⟩ := bindO h
      obtain ⟨y, h2, rfl⟩ := mapO h
      exact pi_rng2D rfl (sx.gl hg) (sx.free _ (by decide) hf) (S.E h1 H0 sx) (S.E h2 H0 sx) (noStar_cons (notStar h1) (noStar_cons (notStar h2) rfl))
    | [], h => exact (nomatch (show (none : Option Ix) = some ix from h))
    | _ :: _ :: _ :: _, h => exact (nomatch (show (none : Option Ix) = some ix from h))
theorem step_J (S : Snd n call k) {e tg : Expr} {ix : Ix} (h : trJ (k + 1) tc e = some ix) (sx : SX X tc n call) : PI X tg e (tIx (C0 X.K H0) Keep (evalI call ix)) := by
  have h : (match isRange tc e with
    | some [a] => (trE k tc a).map Ix.rng
    | some [a, b] => (trE k tc a).bind fun x => (trE k tc b).map fun y => .rng2 x y
    | some _ => none
    | none => (trE k tc e).map .seq) = some ix := h
  cases hr : isRange tc e with
  | none =>
    rw [hr] at h
    have h : (trE k tc e).map Ix.seq = some ix := h
    obtain ⟨x, h1, rfl⟩ := mapO h
    exact pi_seqL rfl (S.E h1 H0 sx)
  | some args =>
    rw [hr] at h
    obtain ⟨q, p, rfl, hg, hf⟩ := isRange_eq hr
    match args, h with
    | [a], h =>
      have h : (trE k tc a).map Ix.rng = some ix := h
      obtain ⟨x, h1, rfl⟩ := mapO h
      exact pi_rngD rfl (sx.gl hg) (sx.free _ (by decide) hf) (S.E h1 H0 sx) (noStar_cons (notStar h1) rfl)
    | [a, b], h =>
      have h : (trE k tc a).bind (fun x => (trE k tc b).map fun y => Ix.rng2 x y) = some ix := h
      obtain ⟨x, h1, h⟩ := bindO h
      obtain ⟨y, h2, rfl⟩ := mapO h
      exact pi_rng2D rfl (sx.gl hg) (sx.free _ (by decide) hf) (S.E h1 H0 sx) (S.E h2 H0 sx) (noStar_cons (notStar h1) (noStar_cons (notStar h2) rfl))
    | [], h => exact (nomatch (show (none : Option Ix) = some ix from h))
    | _ :: _ :: _ :: _, h => exact (nomatch (show (none : Option Ix) = some ix from h))
/-- the parts of a comprehension -/
structure CompP (X : Cx) (tc : TC) (n : Nat) (call : CallT) (H0 : Hp) (elt tg iter : Expr) (ifs : List Expr) (scope : Scope) (ex : Ex) (g : Tg) (it : Ix) (fs : List Ex) (x : Ex) : Prop where
  ex_ : ex = .comp x g it (exsOf fs) ((ownOf tc.N scope).map (·.2))
  hi : PI X tg iter (tIx (C0 X.K H0) (fun _ H => Same H) (evalI call it))
  ok : BlkOk X.N X.env.scope scope (ownOf tc.N scope)
  hg : ∀ (s : Shared) (H : Hp) (C : Addr) (cl : List (Str × Addr)) (fp : List Addr), PG (X.blk s H scope (compEnvC scope cl C X.env) fp) tg (tG (C0 X.K H0) g)
  ht : ∀ (s : Shared) (H : Hp) (C : Addr) (cl : List (Str × Addr)) (fp : List Addr), PTs (X.blk s H scope (compEnvC scope cl C X.env) fp) ifs (tT (C0 X.K H0) (evalT call (exsOf fs)))
  he : ∀ (s : Shared) (H : Hp) (C : Addr) (cl : List (Str × Addr)) (fp : List Addr), PE (X.blk s H scope (compEnvC scope cl C X.env) fp) elt (tD (C0 X.K H0) (evalE call x))
  hs : ∀ x, foldedSetIterable iter X.env x = pure x
  sl : ∀ i ∈ tgSlots g, i ∈ (ownOf tc.N scope).map (·.2)
theorem comp_parts (S : Snd n call k) {elt : Expr} {gs : List Comprehension} {scope : Scope} {ex : Ex} (h : trComp (k + 1) tc elt gs scope = some ex) (sx : SX X tc n call) :
    ∃ tg iter ifs g it fs x, gs = [⟨tg, iter, ifs, 0⟩] ∧ CompP X tc n call H0 elt tg iter ifs scope ex g it fs x := by
  have h : (oneGen gs).bind (fun u => if blkC tc.N tc.sc scope (ownOf tc.N scope) && Nat.ble u.2.2.length 1 then
      (trI k tc u.2.1).bind fun it => (trTg { tc with sc := relS scope tc.sc } u.1).bind fun g => (trL k { tc with sc := relS scope tc.sc } u.2.2).bind fun fs => (trE k { tc with sc := relS scope tc.sc } elt).bind fun x =>
        if (tgSlots g).all fun i => decide (i ∈ (ownOf tc.N scope).map (·.2)) then some (Ex.comp x g it (exsOf fs) ((ownOf tc.N scope).map (·.2))) else none else none) = some ex := h
  obtain ⟨⟨tg, iter, ifs⟩, h1, h⟩ := bindO h
  have e1 := oneGen_eq h1
  cases hc : blkC tc.N tc.sc scope (ownOf tc.N scope) && Nat.ble ifs.length 1 with
  | false =>
    have h : (if blkC tc.N tc.sc scope (ownOf tc.N scope) && Nat.ble ifs.length 1 then _ else none) = some ex := h
    rw [hc] at h
    cases h
  | true =>
    have h : (if blkC tc.N tc.sc scope (ownOf tc.N scope) && Nat.ble ifs.length 1 then _ else none) = some ex := h
    rw [hc, if_pos rfl] at h
    obtain ⟨b1, b2⟩ := ba hc
    obtain ⟨it, h2, h⟩ := bindO h
    obtain ⟨g, h3, h⟩ := bindO h
    obtain ⟨fs, h4, h⟩ := bindO h
    obtain ⟨x, h5, h⟩ := bindO h
    cases hm : (tgSlots g).all fun i => decide (i ∈ (ownOf tc.N scope).map (·.2)) with
    | false => rw [hm] at h; cases h
    | true =>
      rw [hm, if_pos rfl] at h
      cases h
      have sl : ∀ i ∈ tgSlots g, i ∈ (ownOf tc.N scope).map (·.2) := fun i hi => of_decide_eq_true (List.all_eq_true.mp hm i hi)
      have ok : BlkOk X.N X.env.scope scope (ownOf tc.N scope) := by
        rw [sx.N, sx.sc]
        exact blkOk_by b1
      obtain ⟨_, _, l3⟩ := S.L h4
      refine ⟨tg, iter, ifs, g, it, fs, x, e1, rfl, S.I h2 H0 sx, ok, fun s H C cl fp => ?_, fun s H C cl fp => ?_, fun s H C cl fp => ?_, noFold (trI_notSet h2), sl⟩
      · have sb := sx.blk s H scope C cl fp
        refine tg_ok (X := X.blk s H scope (compEnvC scope cl C X.env) fp) sb.nd sb.N sb.calm h3 fun y i hy hi => ?_
        obtain ⟨z, kd, m1, m2, m3⟩ := own_mem (sl i hi)
        have e2 : tc.N[i]? = some y := slotOf_get (tc := { tc with sc := relS scope tc.sc }) (slotL_of hy).1
        rw [m2] at e2
        cases e2
        have hl := ok.uniq _ m1
        have hl2 : (relS scope X.env.scope).names.lookup y = some kd := lookup_relS_keep (by rcases m3 with rfl | rfl <;> exact fun z => nomatch z) hl
        rcases m3 with rfl | rfl
        · exact ⟨.inl hl2, .inr hl2⟩
        · refine ⟨.inr hl2, .inl ?_⟩
          show (scope.names.lookup y == some .cell) = true
          rw [hl]
          rfl
      · exact (l3 H0 (sx.blk s H scope C cl fp)).2.2 (Nat.le_of_ble_eq_true b2)
      · exact S.E h5 H0 (sx.blk s H scope C cl fp)
theorem step_Co (S : Snd n call k) {elt : Expr} {gs : List Comprehension} {scope : Scope} {p : Pos} {ex : Ex} (h : trComp (k + 1) tc elt gs scope = some ex) (sx : SX X tc n call) : PE X (.ListComp elt gs scope p) (tF (C0 X.K H0) (evalE call ex)) := by
  obtain ⟨tg, iter, ifs, g, it, fs, x, rfl, P⟩ := comp_parts S h sx (H0 := H0)
  have e := P.ex_
  subst e
  exact PE.imp (pe_lc sx.calm sx.nd P.hi P.ok P.hg P.ht P.he P.hs) fun σ H Q hh => comp_ok (X := X) (elt := elt) (tg := tg) (iter := iter) (ifs := ifs) (scope := scope) rfl P.sl hh
end
end Dv
end
section
namespace Dv
open PySem PySem.Spec PyProof.Rows L2
section
variable {X : Cx} {n : Nat} {call : CallT} {k : Nat} {tc : TC} {H0 : Hp}

theorem pe_tupD {C : EC} (hC : C.K = X.K) {es : List Expr} {kd : Nat} {pos : Pos} {ms : Rho → M (List D)} (h : PA X es (tAs C ms)) : PE X (.Tuple es kd pos) (tD C fun ρ => (ms ρ).bind fun xs => gd (lim xs.length) (.tuple xs)) := by
  refine ⟨fun pins s σ H Q I hq => ?_⟩
  obtain ⟨A, ρ, env, hs⟩ := hq
  have hs : ((ms ρ).bind _).Sat _ _ := hs
  rw [M.sat_bind] at hs
  refine wpAny_Tuple_spliced (thn (h.run pos pins s σ H (fun vs H1 => ∃ A1 ds, AOk A1 H1 ∧ DAs A1 X.K H1 vs ds ∧ vs.length ≤ sizeLine ∧ Wd X.K A1 H1 Q (.d (.tuple ds))) I ⟨A, ρ, env, hs.mono (fun ds hd A1 vs H1 g r => ?_) fun _ _ z => z⟩) fun us s1 ⟨xs, H1, I1, r, A1, ds, hA, hr, hz, q⟩ => ?_)
  · obtain ⟨hl, q⟩ := gd_sat hd
    rw [hC] at r
    refine ⟨A1, ds, g.ok, r, by rw [r.length]; exact lim_le hl, fun A2 v H2 g2 r2 => ?_⟩
    exact q A2 v H2 (g.trans g2) (by rw [hC]; exact r2)
  · refine ⟨by rw [← r.length]; exact hz, ?_⟩
    have hf : H1 s1.heap.objs.size = none := I1.hok.fresh (Nat.le_refl _)
    exact ⟨.ref s1.heap.objs.size, _, tupNew I1 (tk := s1.toks) (fun b u e => Heap.get?_push_of_some _ e) (Nat.le_refl _) (Heap.get?_push_size _ rfl) rfl rfl r hz, rfl, wd_tup hA q hf (by rfl) hr⟩
theorem pe_lstD {C : EC} (hC : C.K = X.K) {es : List Expr} {pos : Pos} {ms : Rho → M (List D)} (h : PA X es (tAs C ms)) : PE X (.List es pos) (tF C fun ρ => (ms ρ).bind fun xs => gd (lim xs.length) (.list xs)) := by
  refine ⟨fun pins s σ H Q I hq => ?_⟩
  obtain ⟨A, ρ, env, hs⟩ := hq
  have hs : ((ms ρ).bind _).Sat _ _ := hs
  rw [M.sat_bind] at hs
  refine wpAny_List_spliced (thn (h.run pos pins s σ H (fun vs H1 => vs.length ≤ sizeLine ∧ ∀ p, H1 p = none → Q (.ref p) (upd H1 p (.lst vs))) I ⟨A, ρ, env, hs.mono (fun ds hd A1 vs H1 g r => ?_) fun _ _ z => z⟩) fun us s1 ⟨xs, H1, I1, r, hz, q⟩ => ?_)
  · obtain ⟨hl, q⟩ := gd_sat hd
    refine ⟨by rw [r.length]; exact lim_le hl, fun p hp => q A1 p vs ds _ (g.trans (Grow.upd g.ok hp)) rfl (g.same.free hp) (fun z => ?_) upd_same (r.grow (Grow.upd g.ok hp))⟩
    obtain ⟨o, eo⟩ := g.ok p z
    rw [hp] at eo
    cases eo
  · refine ⟨by rw [← r.length]; exact hz, ?_⟩
    have hf : H1 s1.heap.objs.size = none := I1.hok.fresh (Nat.le_refl _)
    exact ⟨.ref s1.heap.objs.size, upd H1 s1.heap.objs.size (.lst xs), I1.laid (t' := s1.toks) (fun b u e => Heap.get?_push_of_some _ e) (Nat.le_refl _) ⟨hz, us, 0, r, Heap.get?_push_size _ rfl⟩, rfl, q _ hf⟩
theorem mkW_eq {ds : List D} {Q : Val → Prop} {E : Nat → List D → Prop} (h : (mkW ds).Sat Q E) : ∃ i j k, ds = [.int i, .int j, .int k] ∧ 0 ≤ i ∧ Q .well := by
  unfold mkW at h
  split at h
  · rename_i i j k
    by_cases hi : 0 ≤ i
    · rw [if_pos hi] at h
      exact ⟨i, j, k, rfl, hi, h⟩
    · rw [if_neg hi] at h
      exact h.elim
  · exact h.elim
theorem pe_mkw {C : EC} (hC : C.K = X.K) {es : List Expr} {pos : Pos} {ms : Rho → M (List D)} (h : PA X es (tAs C ms)) : PE X (.List es pos) (tD C fun ρ => (ms ρ).bind mkW) := by
  refine ⟨fun pins s σ H Q I hq => ?_⟩
  obtain ⟨A, ρ, env, hs⟩ := hq
  have hs : ((ms ρ).bind _).Sat _ _ := hs
  rw [M.sat_bind] at hs
  refine wpAny_List_spliced (thn (h.run pos pins s σ H (fun vs H1 => ∃ A1 i j k, AOk A1 H1 ∧ 0 ≤ i ∧ vs = [.int i, .int j, .int k] ∧ Wd X.K A1 H1 Q .well) I ⟨A, ρ, env, hs.mono (fun ds hd A1 vs H1 g r => ?_) fun _ _ z => z⟩) fun us s1 ⟨xs, H1, I1, r, A1, i, j, k, hA, hi, e, q⟩ => ?_)
  · obtain ⟨i, j, k, rfl, hi, q⟩ := mkW_eq hd
    refine ⟨A1, i, j, k, g.ok, hi, ?_, fun A2 v H2 g2 r2 => ?_⟩
    · exact r.ints (ns := [i, j, k]) rfl
    · exact q A2 v H2 (g.trans g2) (by rw [hC]; exact r2)
  · subst e
    cases r with
    | cons r1 r =>
      cases r with
      | cons r2 r =>
        cases r with
        | cons r3 r =>
          cases r
          obtain ⟨t, rfl⟩ := r1
          obtain ⟨u, rfl⟩ := r2
          obtain ⟨v, rfl⟩ := r3
          refine ⟨by rw [sizeLine_eq]; show 3 ≤ 16777216; decide, ?_⟩
          have hf : H1 s1.heap.objs.size = none := I1.hok.fresh (Nat.le_refl _)
          have e0 : (s1.heap.push { cls := .type "list", data := .seq #[.int i t, .int j u, .int k v] 0 }).get? s1.heap.objs.size = some { cls := .type "list", data := .seq #[.int i t, .int j u, .int k v] 0 } := Heap.get?_push_size _ rfl
          refine ⟨.ref s1.heap.objs.size, upd H1 s1.heap.objs.size (WellO s1.heap.objs.size), I1.laid (t' := s1.toks) (fun b u e => Heap.get?_push_of_some _ e) (Nat.le_refl _) ⟨⟨i, j, k, t, u, v, 0, hi, e0⟩, ⟨_, e0⟩, fun h1 h2 ⟨i, j, k, t, u, v, n, hi, e⟩ hk => ⟨i, j, k, t, u, v, n, hi, hk _ e⟩⟩, rfl, ?_⟩
          exact q A1 _ _ (Grow.upd hA hf) ⟨_, rfl, upd_same⟩
/-- a constant -/
theorem pe_con {C : EC} {e : Expr} {x : PyData} {v : V} (h : PE X e (tC v)) (hd : ∀ A H, DA A C.K H v x) : PE X e (tD C fun _ => okd x) :=
  PE.imp h fun σ H Q ⟨A, ρ, env, hs⟩ => hs A v H (Grow.refl env.aok) (hd A H)
theorem pt_ite {c a b : Expr} {pos : Pos} {tc ta tb : TT} (hc : PT X c tc) (ha : PT X a ta) (hb : PT X b tb) : PT X (.IfExp c a b pos) (fun σ H Q => tc σ H fun d H1 => if d = true then ta σ H1 Q else tb σ H1 Q) := by
  refine ⟨fun pins s σ H Q I h => ?_⟩
  show wpAny _ _ (do if ← isTrue c X.env (eval c X.env) then isTrue a X.env (eval a X.env) else isTrue b X.env (eval b X.env)) _ _ s
  refine wpAny_bind (thn (hc.run pins s σ H _ I h) fun d s1 ⟨H1, I1, q1⟩ => ?_)
  cases d with
  | true =>
    rw [if_pos rfl]
    exact ha.run pins s1 σ H1 Q I1 q1
  | false =>
    rw [if_neg Bool.false_ne_true]
    exact hb.run pins s1 σ H1 Q I1 q1
theorem not_key {C : EC} {m : Rho → M Bool} {σ : L2.St} {H : Hp} {Q : Bool → Hp → Prop} (h : tT C (fun ρ => ((m ρ).bind fun b => okd (.bool (!b))).bind asB) σ H Q) : tNot (tT C m) σ H Q := by
  obtain ⟨A, ρ, env, hs⟩ := h
  have hs : (((m ρ).bind _).bind asB).Sat _ _ := hs
  rw [M.bind_assoc, M.sat_bind] at hs
  exact ⟨A, ρ, env, hs⟩
theorem notV_key {C : EC} {m : Rho → M Val} {σ : L2.St} {H : Hp} {Q : VK} (h : tD C (fun ρ => ((m ρ).bind asB).bind fun b => okd (.bool (!b))) σ H Q) : tNotV (tD C m) σ H Q := by
  obtain ⟨A, ρ, env, hs⟩ := h
  have hs : (((m ρ).bind asB).bind _).Sat _ _ := hs
  rw [M.bind_assoc, M.sat_bind] at hs
  refine ⟨A, ρ, env, hs.mono (fun v hv A1 w H1 g1 r1 => ?_) fun _ _ z => z⟩
  rw [M.sat_bind] at hv
  obtain ⟨b, rfl, hb⟩ := asB_sat hv
  cases r1
  exact ⟨b, rfl, hb A1 _ H1 g1 (DA.bl _)⟩
theorem ite_key {C : EC} {mc : Rho → M Bool} {ma mb : Rho → M Val} {σ : L2.St} {H : Hp} {Q : VK} (h : tD C (fun ρ => (mc ρ).bind fun k => if k = true then ma ρ else mb ρ) σ H Q) : tIf (tT C mc) (tD C ma) (tD C mb) σ H Q := by
  obtain ⟨A, ρ, env, hs⟩ := h
  have hs : ((mc ρ).bind _).Sat _ _ := hs
  rw [M.sat_bind] at hs
  refine ⟨A, ρ, env, hs.mono (fun b hb A1 H1 g1 => ?_) fun _ _ z => z⟩
  cases b with
  | true => exact ⟨A1, ρ, env.grow g1, (show (ma ρ).Sat _ _ from hb).mono (fun d q A2 w H2 g2 r2 => q A2 w H2 (g1.trans g2) r2) fun _ _ z => z.grow g1⟩
  | false => exact ⟨A1, ρ, env.grow g1, (show (mb ρ).Sat _ _ from hb).mono (fun d q A2 w H2 g2 r2 => q A2 w H2 (g1.trans g2) r2) fun _ _ z => z.grow g1⟩
theorem iteT_key {C : EC} {mc : Rho → M Bool} {ma mb : Rho → M Val} {σ : L2.St} {H : Hp} {Q : Bool → Hp → Prop} (h : tT C (fun ρ => ((mc ρ).bind fun k => if k = true then ma ρ else mb ρ).bind asB) σ H Q) :
    tT C mc σ H fun d H1 => if d = true then tT C (fun ρ => (ma ρ).bind asB) σ H1 Q else tT C (fun ρ => (mb ρ).bind asB) σ H1 Q := by
  obtain ⟨A, ρ, env, hs⟩ := h
  have hs : (((mc ρ).bind _).bind asB).Sat _ _ := hs
  rw [M.bind_assoc, M.sat_bind] at hs
  refine ⟨A, ρ, env, hs.mono (fun b hb A1 H1 g1 => ?_) fun _ _ z => z⟩
  cases b with
  | true => exact ⟨A1, ρ, env.grow g1, (show ((ma ρ).bind asB).Sat _ _ from hb).mono (fun d q A2 H2 g2 => q A2 H2 (g1.trans g2)) fun _ _ z => z.grow g1⟩
  | false => exact ⟨A1, ρ, env.grow g1, (show ((mb ρ).bind asB).Sat _ _ from hb).mono (fun d q A2 H2 g2 => q A2 H2 (g1.trans g2)) fun _ _ z => z.grow g1⟩
theorem neg_key {C : EC} {K : PySem.W.Frag} (hK : C.K = K) {m : Rho → M Val} {σ : L2.St} {H : Hp} {Q : VK} (h : tD C (fun ρ => ((m ρ).bind Val.asD).bind negD) σ H Q) : tUn (rD1 K negD) (tD C m) σ H Q := by
  subst hK
  obtain ⟨A, ρ, env, hs⟩ := h
  have hs : (((m ρ).bind Val.asD).bind _).Sat _ _ := hs
  rw [M.bind_assoc, M.sat_bind] at hs
  refine ⟨A, ρ, env, hs.mono (fun v hv A1 w H1 g1 r1 => ?_) fun _ _ z => z⟩
  rw [M.sat_bind] at hv
  obtain ⟨d, rfl, hd⟩ := asD_sat hv
  exact ⟨A1, d, _, g1.ok, .inl r1, hd.mono (fun e q A2 u H2 g2 r2 => q A2 u H2 (g1.trans g2) r2) fun _ _ z => z⟩

theorem step_E (S : Snd n call k) {e : Expr} {ex : Ex} (h : trE (k + 1) tc e = some ex) (sx : SX X tc n call) : PE X e (tD (C0 X.K H0) (evalE call ex)) := by
  cases e with
  | Name x p =>
    have h : (match slotOf tc x with
      | some i => some (Ex.var i)
      | none => if isGlob tc x then (tc.cons.lookup x).map .con else none) = some ex := h
    cases e1 : slotOf tc x with
    | some i =>
      rw [e1] at h
      cases h
      obtain ⟨a, b, c, d⟩ := sx.slot e1
      exact pe_slot a b c d
    | none =>
      rw [e1] at h
      cases hg : isGlob tc x with
      | false =>
        have h : (if isGlob tc x then (tc.cons.lookup x).map Ex.con else none) = some ex := h
        rw [hg] at h
        cases h
      | true =>
        have h : (if isGlob tc x then (tc.cons.lookup x).map Ex.con else none) = some ex := h
        rw [hg, if_pos rfl] at h
        obtain ⟨d, e2, rfl⟩ := mapO h
        obtain ⟨u, v, hdb, hm, r, hd⟩ := sx.cons x d e2
        exact pe_con (pe_glob (sx.gl hg) hm r hdb) hd
  | Constant c kd p =>
    have h : (constD c).map Ex.con = some ex := h
    obtain ⟨d, e2, rfl⟩ := mapO h
    cases c <;> first | (cases e2; first | exact pe_con pe_non fun _ _ => .non | exact pe_con pe_bl fun _ _ => .bl _ | exact pe_con pe_int fun _ _ => .int _ | exact pe_con pe_str fun _ _ => .str _) | exact nomatch e2
  | Tuple es kd p =>
    have h : (trL k tc es).map (fun r => Ex.tup (exsOf r)) = some ex := h
    obtain ⟨xs, h1, rfl⟩ := mapO h
    exact pe_tupD rfl ((S.L h1).2.2 H0 sx).2.1
  | List es p =>
    have h : (trL k tc es).map (fun r => if tc.wl = true then Ex.mkw (exsOf r) else .lst (exsOf r)) = some ex := h
    obtain ⟨xs, h1, e⟩ := mapO h
    split at e
    · subst e
      exact pe_mkw rfl ((S.L h1).2.2 H0 sx).2.1
    · subst e
      exact PE.imp (pe_lstD rfl ((S.L h1).2.2 H0 sx).2.1) fun σ H Q => tF_tD
  | BinOp a o b p =>
    have h : (trR k tc a).bind (fun x => (trR k tc b).map fun y => Ex.bin o x y) = some ex := h
    obtain ⟨x, h1, h⟩ := bindO h
    obtain ⟨y, h2, rfl⟩ := mapO h
    exact PE.imp (pe_op (op_binD o) (S.R h1 H0 sx) (S.R h2 H0 sx)) fun σ H Q hh => two_tR (C := C0 X.K H0) hh
  | UnaryOp o a p =>
    cases o with
    | USub =>
      have h : (trE k tc a).map Ex.neg = some ex := h
      obtain ⟨x, h1, rfl⟩ := mapO h
      exact PE.imp (pe_un un_negD (S.E h1 H0 sx)) fun σ H Q hh => neg_key rfl hh
    | Not =>
      have h : (trE k tc a).map Ex.not_ = some ex := h
      obtain ⟨x, h1, rfl⟩ := mapO h
      exact PE.imp (pe_not (S.E h1 H0 sx)) fun σ H Q hh => notV_key hh
    | _ => exact nomatch (show (none : Option Ex) = some ex from h)
  | BoolOp o vs p => exact (S.W (show trBool k tc o vs p = some ex from h) H0 sx).1
  | Compare a os bs p => exact (S.Cm (show trCmp k tc a os bs = some ex from h) H0 sx).1
  | IfExp c a b p =>
    have h : (trE k tc c).bind (fun z => (trE k tc a).bind fun x => (trE k tc b).map fun y => Ex.ite z x y) = some ex := h
    obtain ⟨z, h1, h⟩ := bindO h
    obtain ⟨x, h2, h⟩ := bindO h
    obtain ⟨y, h3, rfl⟩ := mapO h
    exact PE.imp (pe_ifExp (S.T h1 H0 sx) (S.E h2 H0 sx) (S.E h3 H0 sx)) fun σ H Q hh => ite_key hh
  | Call f args kws p => exact (S.Ca (show trCall k tc f args kws p = some ex from h) H0 sx).1
  | Subscript a i p => exact S.Sb (show trSub k tc a i = some ex from h) H0 sx
  | ListComp elt gs scope p => exact PE.imp (S.Co (show trComp k tc elt gs scope = some ex from h) H0 sx) fun σ H Q => tF_tD
  | _ => exact nomatch (show (none : Option Ex) = some ex from h)
theorem tr_notFresh {α : Type} {o : Option α} {f : α → Ex} {ex : Ex} (h : o.map f = some ex) (hf : isFresh ex = true) (hn : ∀ a, isFresh (f a) = false) : False := by
  obtain ⟨a, _, rfl⟩ := mapO h
  rw [hn] at hf
  cases hf
theorem bool_notFresh : ∀ {k : Nat} {o : BoolOp} {vs : List Expr} {p : Pos} {ex : Ex}, trBool k tc o vs p = some ex → isFresh ex = true → ∃ e j, vs = [e] ∧ trE j tc e = some ex ∧ k = j + 1
  | 0, _, _, _, _, h, _ => nomatch h
  | k + 1, o, [], p, ex, h, _ => nomatch (show (none : Option Ex) = some ex from h)
  | k + 1, o, [a], p, ex, h, _ => ⟨a, k, rfl, h, rfl⟩
  | k + 1, o, a :: b :: r, p, ex, h, hf => by
    have h : (trE k tc a).bind (fun x => (trBool k tc o (b :: r) p).map fun y => andOr o x y) = some ex := h
    obtain ⟨x, h1, h⟩ := bindO h
    obtain ⟨y, h2, rfl⟩ := mapO h
    cases o <;> cases hf
theorem pe_boolone {o : BoolOp} {a : Expr} {pos : Pos} {t : TE} (h : PE X a t) : PE X (.BoolOp o [a] pos) t := pe_one h
theorem cmp_notFresh : ∀ {k : Nat} {a : Expr} {os : List CmpOp} {bs : List Expr} {ex : Ex}, trCmp k tc a os bs = some ex → isFresh ex = false := by
  intro k a os bs ex h
  cases k with
  | zero => cases h
  | succ k =>
    match os, bs, h with
    | [o], [b], h =>
      have h : (trR k tc a).bind (fun x => (trR k tc b).map fun y => Ex.cmp o x y) = some ex := h
      obtain ⟨x, h1, h⟩ := bindO h
      obtain ⟨y, h2, rfl⟩ := mapO h
      rfl
    | [o, o2], [b, c], h =>
      have h : (trR k tc a).bind (fun x => (trR k tc b).bind fun y => (trR k tc c).map fun z => Ex.chain o o2 x y z) = some ex := h
      obtain ⟨x, h1, h⟩ := bindO h
      obtain ⟨y, h2, h⟩ := bindO h
      obtain ⟨z, h3, rfl⟩ := mapO h
      rfl
    | [], _, h => exact (nomatch (show (none : Option Ex) = some ex from h))
    | [_], [], h => exact (nomatch (show (none : Option Ex) = some ex from h))
    | [_], _ :: _ :: _, h => exact (nomatch (show (none : Option Ex) = some ex from h))
    | [_, _], [], h => exact (nomatch (show (none : Option Ex) = some ex from h))
    | [_, _], [_], h => exact (nomatch (show (none : Option Ex) = some ex from h))
    | [_, _], _ :: _ :: _ :: _, h => exact (nomatch (show (none : Option Ex) = some ex from h))
    | _ :: _ :: _ :: _, _, h => exact (nomatch (show (none : Option Ex) = some ex from h))
theorem sub_notFresh {k : Nat} {a i : Expr} {ex : Ex} (h : trSub k tc a i = some ex) : isFresh ex = false := by
  cases k with
  | zero => cases h
  | succ k =>
    have plain : (trR k tc a).bind (fun x => (trE k tc i).map fun y => Ex.idx x y) = some ex → isFresh ex = false := fun h => by
      obtain ⟨x, h1, h⟩ := bindO h
      obtain ⟨y, h2, rfl⟩ := mapO h
      rfl
    cases i with
    | Slice lo hi st q =>
      cases st with
      | none =>
        have h : (trR k tc a).bind (fun x => (trO k tc lo).bind fun l => (trO k tc hi).map fun h => Ex.slc x l h) = some ex := h
        obtain ⟨x, h1, h⟩ := bindO h
        obtain ⟨l, h2, h⟩ := bindO h
        obtain ⟨u, h3, rfl⟩ := mapO h
        rfl
      | some st =>
        have h : (if isRev lo hi st then (trR k tc a).map Ex.rev else none) = some ex := h
        cases hr : isRev lo hi st with
        | false => rw [hr] at h; cases h
        | true =>
          rw [hr, if_pos rfl] at h
          obtain ⟨x, h1, rfl⟩ := mapO h
          rfl
    | _ => exact plain h
theorem step_F (S : Snd n call k) {e : Expr} {ex : Ex} (h : trE (k + 1) tc e = some ex) (hf : isFresh ex = true) (sx : SX X tc n call) (S0 : ∀ j, j < k → Snd n call j) : PE X e (tF (C0 X.K H0) (evalE call ex)) := by
  cases e with
  | Name x p =>
    have h : (match slotOf tc x with
      | some i => some (Ex.var i)
      | none => if isGlob tc x then (tc.cons.lookup x).map .con else none) = some ex := h
    cases e1 : slotOf tc x with
    | some i => rw [e1] at h; cases h; cases hf
    | none =>
      rw [e1] at h
      have h : (if isGlob tc x then (tc.cons.lookup x).map Ex.con else none) = some ex := h
      split at h
      · exact (tr_notFresh h hf fun _ => rfl).elim
      · cases h
  | Constant c kd p =>
    have h : (constD c).map Ex.con = some ex := h
    exact (tr_notFresh h hf fun _ => rfl).elim
  | Tuple es kd p =>
    have h : (trL k tc es).map (fun r => Ex.tup (exsOf r)) = some ex := h
    exact (tr_notFresh h hf fun _ => rfl).elim
  | List es p =>
    have h : (trL k tc es).map (fun r => if tc.wl = true then Ex.mkw (exsOf r) else .lst (exsOf r)) = some ex := h
    obtain ⟨xs, h1, e⟩ := mapO h
    split at e
    · subst e
      cases hf
    · subst e
      exact pe_lstD rfl ((S.L h1).2.2 H0 sx).2.1
  | BinOp a o b p =>
    have h : (trR k tc a).bind (fun x => (trR k tc b).map fun y => Ex.bin o x y) = some ex := h
    obtain ⟨x, h1, h⟩ := bindO h
    exact (tr_notFresh h hf fun _ => rfl).elim
  | UnaryOp o a p =>
    cases o with
    | USub => exact (tr_notFresh (show (trE k tc a).map Ex.neg = some ex from h) hf fun _ => rfl).elim
    | Not => exact (tr_notFresh (show (trE k tc a).map Ex.not_ = some ex from h) hf fun _ => rfl).elim
    | _ => exact nomatch (show (none : Option Ex) = some ex from h)
  | BoolOp o vs p =>
    obtain ⟨e, j, rfl, h1, e2⟩ := bool_notFresh (show trBool k tc o vs p = some ex from h) hf
    exact pe_one ((S0 j (by omega)).F h1 hf H0 sx)
  | Compare a os bs p =>
    have := cmp_notFresh (show trCmp k tc a os bs = some ex from h)
    rw [this] at hf
    cases hf
  | IfExp c a b p =>
    have h : (trE k tc c).bind (fun z => (trE k tc a).bind fun x => (trE k tc b).map fun y => Ex.ite z x y) = some ex := h
    obtain ⟨z, h1, h⟩ := bindO h
    obtain ⟨x, h2, h⟩ := bindO h
    exact (tr_notFresh h hf fun _ => rfl).elim
  | Call f args kws p => exact (S.Ca (show trCall k tc f args kws p = some ex from h) H0 sx).2 hf
  | Subscript a i p =>
    have := sub_notFresh (show trSub k tc a i = some ex from h)
    rw [this] at hf
    cases hf
  | ListComp elt gs scope p => exact S.Co (show trComp k tc elt gs scope = some ex from h) H0 sx
  | _ => exact nomatch (show (none : Option Ex) = some ex from h)
theorem step_T (S : Snd n call k) {e : Expr} {ex : Ex} (h : trE (k + 1) tc e = some ex) (sx : SX X tc n call) : PT X e (tT (C0 X.K H0) fun ρ => (evalE call ex ρ).bind asB) := by
  have P := step_E S h sx (H0 := H0)
  cases e with
  | UnaryOp o a p =>
    cases o with
    | USub => exact PT.imp (pt_val P) fun σ H Q => tT_tD
    | Not =>
      have h : (trE k tc a).map Ex.not_ = some ex := h
      obtain ⟨x, h1, rfl⟩ := mapO h
      exact PT.imp (pt_not (S.T h1 H0 sx)) fun σ H Q hh => not_key hh
    | _ => exact nomatch (show (none : Option Ex) = some ex from h)
  | BoolOp o vs p => exact (S.W (show trBool k tc o vs p = some ex from h) H0 sx).2.pt
  | Compare a os bs p => exact (S.Cm (show trCmp k tc a os bs = some ex from h) H0 sx).2
  | IfExp c a b p =>
    have h : (trE k tc c).bind (fun z => (trE k tc a).bind fun x => (trE k tc b).map fun y => Ex.ite z x y) = some ex := h
    obtain ⟨z, h1, h⟩ := bindO h
    obtain ⟨x, h2, h⟩ := bindO h
    obtain ⟨y, h3, rfl⟩ := mapO h
    exact PT.imp (pt_ite (S.T h1 H0 sx) (S.T h2 H0 sx) (S.T h3 H0 sx)) fun σ H Q hh => iteT_key hh
  | Name _ _ => exact PT.imp (pt_val P) fun σ H Q => tT_tD
  | Constant _ _ _ => exact PT.imp (pt_val P) fun σ H Q => tT_tD
  | Tuple _ _ _ => exact PT.imp (pt_val P) fun σ H Q => tT_tD
  | List _ _ => exact PT.imp (pt_val P) fun σ H Q => tT_tD
  | BinOp _ _ _ _ => exact PT.imp (pt_val P) fun σ H Q => tT_tD
  | Call _ _ _ _ => exact PT.imp (pt_val P) fun σ H Q => tT_tD
  | Subscript _ _ _ => exact PT.imp (pt_val P) fun σ H Q => tT_tD
  | ListComp _ _ _ _ => exact PT.imp (pt_val P) fun σ H Q => tT_tD
  | _ => exact nomatch (show (none : Option Ex) = some ex from h)
/-- what no fuel translates -/
theorem snd_zero : Snd n call 0 where
  E := fun h => nomatch h
  F := fun h => nomatch h
  T := fun h => nomatch h
  R := fun h => nomatch h
  W := fun h => nomatch h
  Cm := fun h => nomatch h
  Ca := fun h => nomatch h
  B := fun h => nomatch h
  Sb := fun h => nomatch h
  Co := fun h => nomatch h
  L := fun h => nomatch h
  Kw := fun h => nomatch h
  Mm := fun h => nomatch h
  O := fun h => nomatch h
  I := fun h => nomatch h
  J := fun h => nomatch h
theorem snd_succ (S0 : ∀ j, j < k → Snd n call j) (S : Snd n call k) : Snd n call (k + 1) where
  E := fun h _ _ sx => step_E S h sx
  F := fun h hf _ _ sx => step_F S h hf sx S0
  T := fun h _ _ sx => step_T S h sx
  R := fun h _ _ sx => step_R S h sx
  W := fun h _ _ sx => step_W S h sx
  Cm := fun h _ _ sx => step_Cm S h sx
  Ca := fun h _ _ sx => step_Ca S h sx
  B := fun h hg hf _ _ sx => step_B S h hg hf sx
  Sb := fun h _ _ sx => step_Sb S h sx
  Co := fun h _ _ sx => step_Co S h sx
  L := fun h => step_L S h
  Kw := fun h _ _ sx => step_Kw S h sx
  Mm := fun h => step_Mm S h
  O := fun h _ _ sx => step_O S h sx
  I := fun h _ _ sx => step_I S h sx
  J := fun h _ _ sx => step_J S h sx
theorem snd_upto : ∀ k, ∀ j, j ≤ k → Snd n call j
  | 0, j, h => by
    have : j = 0 := by omega
    subst this
    exact snd_zero
  | k + 1, j, h => by
    by_cases e : j = k + 1
    · subst e
      exact snd_succ (fun j h => snd_upto k j (by omega)) (snd_upto k k (Nat.le_refl _))
    · exact snd_upto k j (by omega)
theorem snd_all (k : Nat) : Snd n call k := snd_upto k k (Nat.le_refl _)
end
end Dv
end
section
namespace Dv
open PySem PySem.Spec PyProof.Rows L2

def endD (D : Ends) (K : PySem.W.Frag) (A : Addr → Prop) (σ : L2.St) (H : Hp) : Fl → Prop
  | .nx => D.nx σ H
  | .bk => D.bk σ H
  | .ct => D.ct σ H
  | .rt v => ∀ u, Rep A K H u v → D.rt u H
mutual
/-- the slots that statements write -/
def wrS : Sx → List Nat
  | .asg tg _ => tgSlots tg
  | .set i _ => [i]
  | .own i _ => [i]
  | .par i j _ _ => [i, j]
  | .app _ _ => []
  | .seti _ _ _ => []
  | .asg2 _ _ j _ => [j]
  | .ifs _ a b => wrSs a ++ wrSs b
  | .loop tg _ b => tgSlots tg ++ wrSs b
  | .ret _ => []
  | .retn => []
  | .pass => []
  | .cont => []
  | .raise => []
  | .exp _ => []
  | .frz _ s => wrS s
def wrSs : Sxs → List Nat
  | .nil => []
  | .cons s r => wrS s ++ wrSs r
end
/-- what has become of a frame -/
structure Post (W : Nat → Prop) (A0 : Addr → Prop) (K : PySem.W.Frag) (H0 : Hp) (A : Addr → Prop) (H : Hp) (σ : L2.St) (A' : Addr → Prop) (σ' : L2.St) (H' : Hp) (ρ' : Rho) : Prop where
  env : EnvR (C0 K H0) A' H' σ' ρ'
  keep : Keep A H H'
  sub : ∀ x, A x → A' x
  grow : Grow A0 H0 A' H'
  stay : ∀ j, ¬ W j → σ'[j]? = σ[j]?
def tS (W : Nat → Prop) (A0 : Addr → Prop) (K : PySem.W.Frag) (H0 : Hp) (m : Rho → M (Rho × Fl)) : TS := fun D σ H => ∃ A ρ, EnvR (C0 K H0) A H σ ρ ∧ Grow A0 H0 A H ∧
  (m ρ).Sat (fun p => ∀ A' σ' H', Post W A0 K H0 A H σ A' σ' H' p.1 → endD D K A' σ' H' p.2) (fun _ _ => False)

section
variable {W : Nat → Prop} {A0 A A' : Addr → Prop} {K : PySem.W.Frag} {H0 H H' : Hp} {σ σ' : L2.St} {ρ ρ' : Rho}
theorem Post.trans {A2 : Addr → Prop} {σ2 : L2.St} {H2 : Hp} {ρ2 : Rho} (h1 : Keep A H H') (h2 : ∀ x, A x → A' x) (b : Post W A0 K H0 A' H' σ A2 σ2 H2 ρ2) : Post W A0 K H0 A H σ A2 σ2 H2 ρ2 := ⟨b.env, h1.trans h2 b.keep, fun x h => b.sub x (h2 x h), b.grow, b.stay⟩
theorem Post.after {A2 : Addr → Prop} {σ2 : L2.St} {H2 : Hp} {ρ2 : Rho} (a : Post W A0 K H0 A H σ A' σ' H' ρ') (b : Post W A0 K H0 A' H' σ' A2 σ2 H2 ρ2) : Post W A0 K H0 A H σ A2 σ2 H2 ρ2 :=
  ⟨b.env, a.keep.trans a.sub b.keep, fun x h => b.sub x (a.sub x h), b.grow, fun j hj => (b.stay j hj).trans (a.stay j hj)⟩
theorem Post.grow1 {A2 : Addr → Prop} {σ2 : L2.St} {H2 : Hp} {ρ2 : Rho} (g : Grow A H A' H') (b : Post W A0 K H0 A' H' σ A2 σ2 H2 ρ2) : Post W A0 K H0 A H σ A2 σ2 H2 ρ2 := b.trans (Keep.of_grow g) g.sub
theorem Post.refl (e : EnvR (C0 K H0) A H σ ρ) (g : Grow A0 H0 A H) : Post W A0 K H0 A H σ A σ H ρ := ⟨e, .refl, fun _ h => h, g, fun _ _ => rfl⟩
theorem stay_set {i : Nat} {v : Option V} (h : W i) : ∀ j, ¬ W j → (σ.set i v)[j]? = σ[j]? := fun j hj => List.getElem?_set_ne fun z => by
  subst z
  exact hj h
theorem DA.keep (k : Keep A H H') {d : PyData} {v : V} (h : DA A K H v d) : DA A K H' v d :=
  DA.mono (fun _ h => h) (fun a xs ha q => by
    rcases q with q | ⟨o, q⟩
    · exact .inl (k.lst a _ ha q)
    · exact .inr ⟨o, k.frz a o _ q⟩) (fun a xs q => q.keep fun o e => k.frz a o _ e) d v h
theorem DA.sub (k : ∀ x, A x → A' x) {d : PyData} {v : V} (h : DA A K H v d) : DA A' K H v d := DA.mono k (fun _ _ _ q => q) (fun _ _ q => q) d v h
theorem DAs.sub (k : ∀ x, A x → A' x) {d : List PyData} {v : List V} (h : DAs A K H v d) : DAs A' K H v d := DAs.mono k (fun _ _ _ q => q) (fun _ _ q => q) d v h
theorem Rep.sub (k : ∀ x, A x → A' x) {v : V} : ∀ {x : Val}, Rep A K H v x → Rep A' K H v x
  | .d x, h => DA.sub k h
  | .well, h => h
  | .exc _ _, h => h
  | .clo _ _, h => h

theorem frz1 {C : EC} (env : EnvR C A H σ ρ) (g : Grow A0 C.H0 A H) {i : Nat} {x : D} (e : ρ[i]? = some (some (.own x))) : ∃ A', EnvR C A' H σ (ρ.set i (some (.v (.d x)))) ∧ Grow A0 C.H0 A' H ∧ ∀ y, A y → A' y := by
  obtain ⟨v, e1, a, xs, ds, rfl, rfl, ha, hd, na, h0⟩ := env.at_ i _ e
  have hl : i < ρ.length := (List.getElem?_eq_some_iff.mp e).1
  refine ⟨fun b => A b ∨ b = a, ⟨fun b hb => ?_, by rw [List.length_set]; exact env.len, fun j s ej => ?_, fun j k x y b hjk ej ek es => ?_⟩, ⟨g.same, fun b hb => .inl (g.sub b hb), fun b hb => ?_, fun b hb => ?_⟩, fun y h => .inl h⟩
  · rcases hb with hb | rfl
    · exact env.aok b hb
    · exact ⟨_, ha⟩
  · by_cases hij : i = j
    · subst hij
      rw [List.getElem?_set_self hl] at ej
      cases ej
      exact ⟨_, e1, DA.lst (.mk (.inr rfl) (.inl ha)) (hd.sub fun _ h => .inl h)⟩
    · rw [List.getElem?_set_ne hij] at ej
      obtain ⟨w, ew, r⟩ := env.at_ j s ej
      refine ⟨w, ew, ?_⟩
      cases s with
      | v z => exact Rep.sub (fun _ h => .inl h) r
      | own z =>
        obtain ⟨b, ys, es, rfl, rfl, hb, hds, nb, hb0⟩ := r
        refine ⟨b, ys, es, rfl, rfl, hb, hds.sub fun _ h => .inl h, fun q => ?_, hb0⟩
        rcases q with q | rfl
        · exact nb q
        · exact env.apart i j _ _ b hij e ej e1 ew
  · have hji : i ≠ j := fun z => by
      subst z
      rw [List.getElem?_set_self hl] at ej
      cases ej
    have hki : i ≠ k := fun z => by
      subst z
      rw [List.getElem?_set_self hl] at ek
      cases ek
    rw [List.getElem?_set_ne hji] at ej
    rw [List.getElem?_set_ne hki] at ek
    exact env.apart j k x y b hjk ej ek es
  · rcases hb with hb | rfl
    · exact g.new b hb
    · exact .inr h0
  · rcases hb with hb | rfl
    · exact g.ok b hb
    · exact ⟨_, ha⟩
theorem frz_ok {C : EC} : ∀ {is : List Nat} {A : Addr → Prop} {ρ : Rho}, EnvR C A H σ ρ → Grow A0 C.H0 A H → ∃ A', EnvR C A' H σ (frzD ρ is) ∧ Grow A0 C.H0 A' H ∧ ∀ y, A y → A' y
  | [], A, ρ, env, g => ⟨A, env, g, fun _ h => h⟩
  | i :: r, A, ρ, env, g => by
    unfold frzD
    split
    · rename_i x e
      obtain ⟨A1, e1, g1, s1⟩ := frz1 env g e
      obtain ⟨A2, e2, g2, s2⟩ := frz_ok (is := r) e1 g1
      exact ⟨A2, e2, g2, fun y h => s2 y (s1 y h)⟩
    · exact frz_ok env g
end

section
variable {X : Cx} {n : Nat} {call : CallT} {k : Nat} {tc : TC} {H0 : Hp} {W : Nat → Prop} {A0 : Addr → Prop}
theorem ps_frz {st : Stmt} {is : List Nat} {m : Rho → M (Rho × Fl)} (h : PS X st (tS W A0 X.K H0 m)) : PS X st (tS W A0 X.K H0 fun ρ => m (frzD ρ is)) := by
  refine PS.imp h fun D σ H hh => ?_
  obtain ⟨A, ρ, env, g, hs⟩ := hh
  obtain ⟨A1, e1, g1, s1⟩ := frz_ok (is := is) env g
  exact ⟨A1, _, e1, g1, hs.mono (fun p q A' σ' H' P => q A' σ' H' (P.trans .refl s1)) fun _ _ z => z⟩
theorem wr_frzOf {vs : List Nat} {s : Sx} : wrS (frzOf tc vs s) = wrS s := by
  unfold frzOf
  split <;> rfl
theorem ps_frzOf {st : Stmt} {vs : List Nat} {s : Sx} (h : PS X st (tS W A0 X.K H0 (evalS call s))) : PS X st (tS W A0 X.K H0 (evalS call (frzOf tc vs s))) := by
  unfold frzOf
  split
  · exact h
  · exact ps_frz h

/-- what stands around a def's statements -/
structure SS (X : Cx) (tc : TC) (n : Nat) (call : CallT) : Prop where
  sx : SX X tc n call
  nm : ∀ x i, slotL tc x = some i → NmOk X x
  kind : X.env.scope.kind = .function

theorem blockK (h : X.env.scope.kind = .function) : X.env.blockKind = .function := by
  unfold Env.blockKind
  rw [h]
  rfl
theorem noStars_any : ∀ {vs : List Expr}, noStars vs = true → (vs.any fun | .Starred .. => true | _ => false) = false
  | [], _ => rfl
  | e :: r, h => by
    cases e with
    | Starred _ _ => cases h
    | _ => exact noStars_any (vs := r) h
theorem local_names (hs : X.env.scope = tc.sc) (line : Nat) : ∀ ts : List Expr, (ts.filterMap fun
    | .Name id pos => if X.env.kindOf id == some .local && pos.line == line then some id else none
    | _ => none) = ts.filterMap (localAt tc line) := fun ts => by
  refine congrArg (fun f => ts.filterMap f) (funext fun e => ?_)
  cases e with
  | Name x p =>
    show (if X.env.kindOf x == some .local && p.line == line then some x else none) = if isLoc tc x && decide (p.line = line) then some x else none
    have e1 : (X.env.kindOf x == some .local) = isLoc tc x := by
      show (X.env.scope.names.lookup x == some .local) = decide (tc.sc.names.lookup x = some .local)
      rw [hs]
      exact Bool.eq_iff_iff.mpr (by simp)
    have e2 : (p.line == line) = decide (p.line = line) := rfl
    rw [e1, e2]
  | _ => rfl
theorem line_of (ts : List Expr) : (ts.head?.map (·.pos.line)).getD 0 = lineOf ts := by cases ts <;> rfl
theorem local_names2 (hs : X.env.scope = tc.sc) (ts : List Expr) : (ts.filterMap fun
    | .Name id pos => if X.env.kindOf id == some .local && pos.line == (ts.head?.map (·.pos.line)).getD 0 then some id else none
    | _ => none) = ts.filterMap (localAt tc (lineOf ts)) := by
  rw [line_of ts]
  exact local_names hs _ ts
theorem nb (a b : Nat) : (a != b) = !decide (a = b) := rfl
theorem swap_ok (hs : X.env.scope = tc.sc) (hk : X.env.scope.kind = .function) {t e : Expr} {r : Option (List Str)} (h : swapD tc t e = some r) : swappedStores [t] e X.env = pure r := by
  have hb := blockK hk
  cases t with
  | Name x p =>
    cases h
    cases e <;> rfl
  | Tuple ts a b =>
    cases e with
    | Tuple vs c d =>
      have h : (if noStars vs then
      (if (decide (ts.length = 2) || decide (ts.length = 3)) && decide (vs.length = ts.length) then
        (if decide ((ts.filterMap (localAt tc (lineOf ts))).length = ts.length) && decide ((ts.filterMap (localAt tc (lineOf ts))).eraseDups.length = (ts.filterMap (localAt tc (lineOf ts))).length) then
          (if vs.all (foldedForSure 8) then some none else if vs.all (constantsAlone 8) then none else some (some (ts.filterMap (localAt tc (lineOf ts)))))
        else some none)
      else some none)
    else none) = some r := h
      cases ns : noStars vs with
      | false => rw [ns] at h; cases h
      | true =>
        rw [ns, if_pos rfl] at h
        have k1 : (!(ts.length == 2 || ts.length == 3) || vs.length != ts.length || X.env.blockKind != .function) = !((decide (ts.length = 2) || decide (ts.length = 3)) && decide (vs.length = ts.length)) := by
          rw [hb, Bool.not_and]
          show ((!(decide (ts.length = 2) || decide (ts.length = 3)) || !decide (vs.length = ts.length)) || false) = _
          rw [Bool.or_false]
        unfold swappedStores
        cases c1 : (decide (ts.length = 2) || decide (ts.length = 3)) && decide (vs.length = ts.length) with
        | false =>
          rw [c1] at h k1
          have h := Option.some.inj h
          subst h
          exact if_pos k1
        | true =>
          rw [c1, if_pos rfl] at h
          rw [c1] at k1
          refine (if_neg fun z => Bool.false_ne_true (k1.symm.trans z)).trans ?_
          refine (if_neg fun z => Bool.false_ne_true ((noStars_any ns).symm.trans z)).trans ?_
          let G : List Str → Sem (Option (List Str)) := fun names => if names.length != ts.length || names.eraseDups.length != names.length then pure none else if vs.all (foldedForSure 8) then pure none else
            (do if vs.all (constantsAlone 8) then unsupported "assign.tuple-of-constant-expressions:order-of-the-stores"
                return some names)
          refine (congrArg G (local_names2 hs ts)).trans ?_
          generalize ts.filterMap (localAt tc (lineOf ts)) = ns at h ⊢
          show (if ns.length != ts.length || ns.eraseDups.length != ns.length then pure none else _) = _
          have k2 : (ns.length != ts.length || ns.eraseDups.length != ns.length) = !(decide (ns.length = ts.length) && decide (ns.eraseDups.length = ns.length)) := by
            rw [Bool.not_and]
            rfl
          rw [k2]
          cases c2 : decide (ns.length = ts.length) && decide (ns.eraseDups.length = ns.length) with
          | false =>
            rw [c2] at h
            have h := Option.some.inj h
            subst h
            rfl
          | true =>
            rw [c2, if_pos rfl] at h
            rw [if_neg (by decide)]
            cases c3 : vs.all (foldedForSure 8) with
            | true =>
              rw [c3, if_pos rfl] at h
              have h := Option.some.inj h
              subst h
              rfl
            | false =>
              rw [c3, if_neg Bool.false_ne_true] at h
              cases c4 : vs.all (constantsAlone 8) with
              | true => rw [c4] at h; cases h
              | false =>
                rw [c4, if_neg Bool.false_ne_true] at h
                have h := Option.some.inj h
                subst h
                rfl
    | _ =>
      cases h
      rfl
  | _ => exact nomatch (show (none : Option (Option (List Str))) = some r from h)
end
end Dv
end
section
namespace Dv
open PySem PySem.Spec PyProof.Rows L2

section
variable {A0 A A' : Addr → Prop} {K : PySem.W.Frag} {H0 H H' : Hp} {σ σ' : L2.St} {ρ ρ' : Rho} {C : EC}
theorem EnvR.setOwn (env : EnvR C A H σ ρ) {i : Nat} {a : Addr} {xs : List V} {ds : List D} (ha : H a = some (.lst xs)) (hd : DAs A C.K H xs ds) (na : ¬ A a) (h0 : C.H0 a = none) (nw : ∀ (j : Nat) (x : D), ρ[j]? = some (some (.own x)) → σ[j]? ≠ some (some (.ref a))) :
    EnvR C A H (σ.set i (some (.ref a))) (ρ.set i (some (.own (.list ds)))) := by
  have key : ∀ {j : Nat} {s : Slot}, (ρ.set i (some (.own (.list ds))))[j]? = some (some s) → (j = i ∧ s = .own (.list ds) ∧ i < ρ.length) ∨ (j ≠ i ∧ ρ[j]? = some (some s)) := by
    intro j s e
    by_cases h : i = j
    · subst h
      by_cases hl : i < ρ.length
      · rw [List.getElem?_set_self hl] at e
        cases e
        exact .inl ⟨rfl, rfl, hl⟩
      · rw [List.getElem?_eq_none (by rw [List.length_set]; omega)] at e
        cases e
    · rw [List.getElem?_set_ne h] at e
      exact .inr ⟨fun z => h z.symm, e⟩
  refine ⟨env.aok, by rw [List.length_set, List.length_set]; exact env.len, fun j s e => ?_, fun j k x y b hjk ej ek es => ?_⟩
  · rcases key e with ⟨rfl, rfl, hl⟩ | ⟨hn, e⟩
    · exact ⟨_, List.getElem?_set_self (by rw [env.len]; exact hl), a, xs, ds, rfl, rfl, ha, hd, na, h0⟩
    · obtain ⟨w, ew, r⟩ := env.at_ j s e
      exact ⟨w, by rw [List.getElem?_set_ne (Ne.symm hn)]; exact ew, r⟩
  · rcases key ej with ⟨hj1, _, hl⟩ | ⟨hn, ej'⟩
    · rcases key ek with ⟨hk1, _, _⟩ | ⟨hk, ek'⟩
      · exact absurd (hj1.trans hk1.symm) hjk
      · rw [hj1, List.getElem?_set_self (by rw [env.len]; exact hl)] at es
        cases es
        rw [List.getElem?_set_ne (Ne.symm hk)]
        exact nw k y ek'
    · rw [List.getElem?_set_ne (Ne.symm hn)] at es
      rcases key ek with ⟨hk1, _, hl⟩ | ⟨hk, ek'⟩
      · rw [hk1, List.getElem?_set_self (by rw [env.len]; exact hl)]
        intro z
        cases z
        exact nw j x ej' es
      · rw [List.getElem?_set_ne (Ne.symm hk)]
        exact env.apart j k x y b hjk ej' ek' es
theorem Rep.put {a : Addr} {xs ys : List V} (e : H a = some (.lst xs)) (na : ¬ A a) {v : V} : ∀ {x : Val}, Rep A K H v x → Rep A K (upd H a (.lst ys)) v x
  | .d x, h => DA.put e na h
  | .well, ⟨b, h1, h2⟩ => ⟨b, h1, by
      rw [upd_ne (fun z => ?_)]
      · exact h2
      · subst z
        rw [e] at h2
        cases h2⟩
  | .exc _ _, h => h
  | .clo _ _, h => h
theorem EnvR.app (env : EnvR C A H σ ρ) {i : Nat} {a : Addr} {xs : List V} {ds : List D} {d : D} {v : V} (ei : ρ[i]? = some (some (.own (.list ds)))) (es : σ[i]? = some (some (.ref a))) (ha : H a = some (.lst xs)) (hd : DAs A C.K H xs ds) (na : ¬ A a) (h0 : C.H0 a = none) (hv : DA A C.K H v d) :
    EnvR C A (upd H a (.lst (xs ++ [v]))) σ (ρ.set i (some (.own (.list (ds ++ [d]))))) := by
  have hl : i < ρ.length := (List.getElem?_eq_some_iff.mp ei).1
  refine ⟨fun b hb => ?_, by rw [List.length_set]; exact env.len, fun j s e => ?_, fun j k x y b hjk ej ek eb => ?_⟩
  · obtain ⟨o, eo⟩ := env.aok b hb
    have hne : b ≠ a := fun z => by
      subst z
      exact na hb
    exact ⟨o, by rw [upd_ne hne]; exact eo⟩
  · by_cases h : i = j
    · subst h
      rw [List.getElem?_set_self hl] at e
      cases e
      exact ⟨_, es, a, xs ++ [v], ds ++ [d], rfl, rfl, upd_same, (hd.put ha na).append (.cons (hv.put ha na) .nil), na, h0⟩
    · rw [List.getElem?_set_ne h] at e
      obtain ⟨w, ew, r⟩ := env.at_ j s e
      refine ⟨w, ew, ?_⟩
      cases s with
      | v z => exact Rep.put ha na r
      | own z =>
        obtain ⟨b, ys, es2, rfl, rfl, hb, hds, nb2, hb0⟩ := r
        have hne : b ≠ a := fun z => by
          subst z
          exact env.apart i j _ _ b h ei e es ew
        exact ⟨b, ys, es2, rfl, rfl, by rw [upd_ne hne]; exact hb, hds.put ha na, nb2, hb0⟩
  · have back : ∀ {j : Nat} {x : D}, (ρ.set i (some (.own (.list (ds ++ [d])))))[j]? = some (some (.own x)) → ∃ x', ρ[j]? = some (some (.own x')) := fun {j x} e => by
      by_cases h : i = j
      · subst h
        exact ⟨_, ei⟩
      · rw [List.getElem?_set_ne h] at e
        exact ⟨_, e⟩
    obtain ⟨x', ej⟩ := back ej
    obtain ⟨y', ek⟩ := back ek
    exact env.apart j k x' y' b hjk ej ek eb
end

section
variable {X : Cx} {n : Nat} {call : CallT} {k : Nat} {tc : TC} {H0 : Hp} {W : Nat → Prop} {A0 : Addr → Prop}
theorem swap_no {e : Expr} {t : Option Expr} {line : Nat} (h : isComp e = false) : swapsWith e t line X.env = pure false := by
  cases e <;> first | rfl | cases h
theorem swap_tup {e : Expr} {es : List Expr} {a : Nat} {b : Pos} {line : Nat} : swapsWithSole [.Tuple es a b] e line X.env = pure false := by
  cases e <;> rfl

theorem wipe_get {j : Nat} : ∀ {vs : List Nat} {σ : L2.St}, j ∉ vs → (wipe σ vs)[j]? = σ[j]?
  | [], _, _ => rfl
  | i :: r, σ, h => by
    show ((wipe σ r).set i none)[j]? = _
    rw [List.getElem?_set_ne fun z => h (by rw [z]; exact List.mem_cons_self)]
    exact wipe_get fun z => h (List.mem_cons_of_mem _ z)
theorem stay_wipe {W : Nat → Prop} {tg : Tg} {σ σ2 : L2.St} (hW : ∀ i ∈ tgSlots tg, W i) (h : ∀ vs, (∀ i ∈ tgSlots tg, i ∈ vs) → wipe σ2 vs = wipe σ vs) : ∀ j, ¬ W j → σ2[j]? = σ[j]? := fun j hj => by
  have hn : j ∉ tgSlots tg := fun z => hj (hW j z)
  rw [← wipe_get hn (σ := σ2), ← wipe_get hn (σ := σ), h _ fun _ z => z]
theorem set_key {i : Nat} (hW : W i) {m : Rho → M Val} {D : Ends} {σ : L2.St} {H : Hp} (h : tS W A0 X.K H0 (fun ρ => (m ρ).bind fun x => .ok (ρ.set i (some (.v x)), .nx)) D σ H) : tAsg (tD (C0 X.K H0) m) (gName i) D σ H := by
  obtain ⟨A, ρ, env, g, hs⟩ := h
  have hs : ((m ρ).bind _).Sat _ _ := hs
  rw [M.sat_bind] at hs
  exact ⟨A, ρ, env, hs.mono (fun x hx A1 v H1 g1 r1 => hx A1 (σ.set i (some v)) H1 ⟨(env.grow g1).setV r1, Keep.of_grow g1, g1.sub, g.trans g1, stay_set hW⟩) fun _ _ z => z.elim⟩
theorem own_key {i : Nat} (hW : W i) {m : Rho → M Val} {D : Ends} {σ : L2.St} {H : Hp} (h : tS W A0 X.K H0 (fun ρ => ((m ρ).bind Val.asD).bind fun x => .ok (ρ.set i (some (.own x)), .nx)) D σ H) : tAsg (tF (C0 X.K H0) m) (gName i) D σ H := by
  obtain ⟨A, ρ, env, g, hs⟩ := h
  have hs : (((m ρ).bind Val.asD).bind _).Sat _ _ := hs
  rw [M.bind_assoc, M.sat_bind] at hs
  refine ⟨A, ρ, env, hs.mono (fun x hx A1 a xs ds H1 g1 e hn na ha hd => ?_) fun _ _ z => z.elim⟩
  subst e
  have e1 := env.grow g1
  refine hx A1 (σ.set i (some (.ref a))) H1 ⟨e1.setOwn ha hd na (g.same.free hn) fun j x ej es => ?_, Keep.of_grow g1, g1.sub, g.trans g1, stay_set hW⟩
  obtain ⟨w, ew, b, ys, es2, rfl, rfl, hb, _⟩ := env.at_ j _ ej
  rw [ew] at es
  cases es
  rw [hb] at hn
  cases hn
theorem asg_key {tg : Tg} (hW : ∀ i ∈ tgSlots tg, W i) {m : Rho → M Val} {D : Ends} {σ : L2.St} {H : Hp} (h : tS W A0 X.K H0 (fun ρ => ((m ρ).bind Val.asD).bind fun x => (asgD tg x ρ).bind fun ρ2 => .ok (ρ2, .nx)) D σ H) : tAsg (tD (C0 X.K H0) m) (tG (C0 X.K H0) tg) D σ H := by
  obtain ⟨A, ρ, env, g, hs⟩ := h
  have hs : (((m ρ).bind Val.asD).bind _).Sat _ _ := hs
  rw [M.bind_assoc, M.sat_bind] at hs
  refine ⟨A, ρ, env, hs.mono (fun x hx A1 v H1 g1 r1 => ?_) fun _ _ z => z.elim⟩
  rw [M.sat_bind] at hx
  obtain ⟨d, rfl, hd⟩ := asD_sat hx
  rw [M.sat_bind] at hd
  exact ⟨A1, ρ, d, env.grow g1, r1, hd.mono (fun ρ2 q σ2 e2 hw => q A1 σ2 H1 ⟨e2, Keep.of_grow g1, g1.sub, g.trans g1, stay_wipe hW hw⟩) fun _ _ z => z⟩
theorem wr_asgOf {g : Tg} {y : Ex} : wrS (asgOf tc g y) = tgSlots g := by
  unfold asgOf
  split
  · split <;> rfl
  · rfl
theorem st_asg (S : Snd n call k) (ss : SS X tc n call) {t e : Expr} {p : Pos} {sx : Sx} (hw : swapD tc t e = some none) (h : (trTg tc t).bind (fun g => (trE k tc e).map fun y => frzOf tc (varsE y) (asgOf tc g y)) = some sx) (hW : ∀ i ∈ wrS sx, W i) :
    PS X (.Assign [t] e p) (tS W A0 X.K H0 (evalS call sx)) := by
  obtain ⟨g, h1, h⟩ := bindO h
  obtain ⟨y, h2, rfl⟩ := mapO h
  have s := ss.sx
  rw [wr_frzOf, wr_asgOf] at hW
  refine ps_frzOf ?_
  cases t with
  | Name x q =>
    have h1 : (slotL tc x).map Tg.nm = some g := h1
    obtain ⟨i, h3, rfl⟩ := mapO h1
    obtain ⟨hN, hv, hd, hcd⟩ := s.slot (slotL_of h3).1
    obtain ⟨hl, hf⟩ := ss.nm x i h3
    have plain : PS X (.Assign [.Name x q] e p) (tAsg (tD (C0 X.K H0) (evalE call y)) (gName i)) ∧ (isFresh y = true → PS X (.Assign [.Name x q] e p) (tAsg (tF (C0 X.K H0) (evalE call y)) (gName i))) := by
      cases hc : isComp e with
      | false => exact ⟨ps_set s.nd hN hl (S.E h2 H0 s) (swap_no hc) hf, fun hy => ps_set s.nd hN hl (S.F h2 hy H0 s) (swap_no hc) hf⟩
      | true =>
        cases e with
        | ListComp elt gs scope pos =>
          cases k with
          | zero => cases h2
          | succ k =>
            have h2 : trComp k tc elt gs scope = some y := h2
            cases k with
            | zero => cases h2
            | succ k =>
              obtain ⟨tg, iter, ifs, g, it, fs, z, rfl, P⟩ := comp_parts (snd_all k) h2 s (H0 := H0)
              have e := P.ex_
              subst e
              have f : PS X (.Assign [.Name x q] (.ListComp elt [⟨tg, iter, ifs, 0⟩] scope pos) p) (tAsg (tF (C0 X.K H0) (evalE call (.comp z g it (exsOf fs) ((ownOf tc.N scope).map (·.2))))) (gName i)) := by
                cases hb : (X.env.blockKind == .function && X.env.kindOf x == some .local && q.line == pos.line && !(scope.names.any fun (n, k) => n == x && (k == .local || k == .cell))) with
                | true =>
                  have hyl : X.env.scope.names.lookup x = some .local := by
                    have z := (ba (ba (ba hb).1).1).2
                    exact eq_of_beq z
                  refine PS.imp (ps_setLc s.calm s.nd hN hyl (show _ = _ from by rw [← hb]; rfl) P.hi P.ok P.hg P.ht P.he P.hs) fun D σ H hh => ?_
                  exact comp_ok (X := X) (elt := elt) (tg := tg) (iter := iter) (ifs := ifs) (scope := scope) rfl P.sl hh
                | false => exact ps_set s.nd hN hl (step_Co (snd_all k) h2 s) (show _ = _ from by rw [← hb]; rfl) hf
              exact ⟨PS.imp f fun D σ H => tF_tD, fun _ => f⟩
        | SetComp _ _ _ _ =>
          cases k with
          | zero => cases h2
          | succ k => exact nomatch (show (none : Option Ex) = some y from h2)
        | DictComp _ _ _ _ _ =>
          cases k with
          | zero => cases h2
          | succ k => exact nomatch (show (none : Option Ex) = some y from h2)
        | _ => cases hc
    show PS X _ (tS W A0 X.K H0 (evalS call (if i ∈ tc.mv ∧ isFresh y = true then .own i y else .set i y)))
    by_cases hm : i ∈ tc.mv ∧ isFresh y = true
    · rw [if_pos hm]
      exact PS.imp (plain.2 hm.2) fun D σ H hh => own_key (hW i List.mem_cons_self) hh
    · rw [if_neg hm]
      exact PS.imp plain.1 fun D σ H hh => set_key (hW i List.mem_cons_self) hh
  | Tuple es a b =>
    have h1' : (seqO (es.map (nmSlot tc))).map Tg.tp = some g := h1
    obtain ⟨is, h3, rfl⟩ := mapO h1'
    exact PS.imp (ps_asg (S.E h2 H0 s) (tg_ok s.nd s.N s.calm h1 fun x i hx _ => ss.nm x i hx) swap_tup (swap_ok s.sc ss.kind hw)) fun D σ H hh => asg_key hW hh
  | _ => exact nomatch (show (none : Option Tg) = some g from h1)
end
end Dv
end
section
namespace Dv
open PySem PySem.Spec PyProof.Rows L2

section
variable {X : Cx} {n : Nat} {call : CallT} {k : Nat} {tc : TC} {H0 : Hp} {W : Nat → Prop} {A0 : Addr → Prop}
theorem pairOf_eq {t e : Expr} {u : (Str × Str) × Expr × Expr} (h : pairOf t e = some u) : ∃ px py kt pt k2 p2, t = .Tuple [.Name u.1.1 px, .Name u.1.2 py] kt pt ∧ e = .Tuple [u.2.1, u.2.2] k2 p2 := by
  unfold pairOf at h
  split at h
  · cases h
    exact ⟨_, _, _, _, _, _, rfl, rfl⟩
  · cases h
theorem par_key {i j : Nat} (hi : W i) (hj : W j) {ma mb : Rho → M Val} {D : Ends} {σ : L2.St} {H : Hp} (h : tS W A0 X.K H0 (fun ρ => (ma ρ).bind fun x => (mb ρ).bind fun y => .ok ((ρ.set i (some (.v x))).set j (some (.v y)), .nx)) D σ H) : tPar i j (tCons (tD (C0 X.K H0) ma) (tCons (tD (C0 X.K H0) mb) tNil)) D σ H := by
  obtain ⟨A, ρ, env, g, hs⟩ := h
  have hs : ((ma ρ).bind _).Sat _ _ := hs
  rw [M.sat_bind] at hs
  refine ⟨A, ρ, env, hs.mono (fun x hx A1 v H1 g1 r1 => ?_) fun _ _ z => z.elim⟩
  rw [M.sat_bind] at hx
  refine ⟨A1, ρ, env.grow g1, hx.mono (fun y hy A2 w H2 g2 r2 => ?_) fun _ _ z => z.elim⟩
  have g12 := g1.trans g2
  exact ⟨v, w, rfl, hy A2 _ H2 ⟨((env.grow g12).setV (r1.grow g2)).setV r2, Keep.of_grow g12, g12.sub, g.trans g12, fun q hq => (stay_set hj q hq).trans (stay_set hi q hq)⟩⟩
theorem swapD_names {ts vs : List Expr} {a c : Nat} {b d : Pos} {ns : List Str} (h : swapD tc (.Tuple ts a b) (.Tuple vs c d) = some (some ns)) : ns = ts.filterMap (localAt tc (lineOf ts)) ∧ ns.length = ts.length ∧ ns.eraseDups.length = ns.length ∧ noStars vs = true := by
  have h : (if noStars vs then
      (if (decide (ts.length = 2) || decide (ts.length = 3)) && decide (vs.length = ts.length) then
        (if decide ((ts.filterMap (localAt tc (lineOf ts))).length = ts.length) && decide ((ts.filterMap (localAt tc (lineOf ts))).eraseDups.length = (ts.filterMap (localAt tc (lineOf ts))).length) then
          (if vs.all (foldedForSure 8) then some none else if vs.all (constantsAlone 8) then none else some (some (ts.filterMap (localAt tc (lineOf ts)))))
        else some none)
      else some none)
    else none) = some (some ns) := h
  split at h
  · split at h
    · split at h
      · rename_i c2
        split at h
        · cases h
        · split at h
          · cases h
          · have h := Option.some.inj (Option.some.inj h)
            subst h
            obtain ⟨c3, c4⟩ := ba c2
            exact ⟨rfl, of_decide_eq_true c3, of_decide_eq_true c4, by assumption⟩
      · cases h
    · cases h
  · cases h
theorem two_local {x y : Str} {px py : Pos} {line : Nat} (h : ([Expr.Name x px, .Name y py].filterMap (localAt tc line)).length = 2) : tc.sc.names.lookup x = some .local ∧ tc.sc.names.lookup y = some .local ∧ [Expr.Name x px, .Name y py].filterMap (localAt tc line) = [x, y] := by
  have e : ∀ z p, localAt tc line (.Name z p) = if isLoc tc z && decide (p.line = line) then some z else none := fun _ _ => rfl
  rw [List.filterMap_cons, List.filterMap_cons, List.filterMap_nil, e, e] at h ⊢
  cases c1 : isLoc tc x && decide (px.line = line) with
  | false =>
    cases c2 : isLoc tc y && decide (py.line = line) with
    | false => rw [c1, c2] at h; cases h
    | true => rw [c1, c2] at h; cases h
  | true =>
    cases c2 : isLoc tc y && decide (py.line = line) with
    | false => rw [c1, c2] at h; cases h
    | true =>
      exact ⟨of_decide_eq_true (ba c1).1, of_decide_eq_true (ba c2).1, rfl⟩
theorem st_par (S : Snd n call k) (ss : SS X tc n call) {t e : Expr} {p : Pos} {sx : Sx} {ns : List Str} (hw : swapD tc t e = some (some ns))
    (h : (pairOf t e).bind (fun u => (slotL tc u.1.1).bind fun i => (slotL tc u.1.2).bind fun j => (trE k tc u.2.1).bind fun a => (trE k tc u.2.2).map fun b => frzOf tc (varsE a ++ varsE b) (.par i j a b)) = some sx) (hW : ∀ i ∈ wrS sx, W i) :
    PS X (.Assign [t] e p) (tS W A0 X.K H0 (evalS call sx)) := by
  have s := ss.sx
  obtain ⟨⟨⟨x, y⟩, a, b⟩, h1, hq⟩ := bindO h
  clear h
  obtain ⟨px, py, kt, pt, k2, p2, rfl, rfl⟩ := pairOf_eq h1
  obtain ⟨i, h2, h⟩ := bindO hq
  obtain ⟨j, h3, h⟩ := bindO h
  obtain ⟨u, h4, h⟩ := bindO h
  obtain ⟨w, h5, rfl⟩ := mapO h
  obtain ⟨e1, e2, e3, e4⟩ := swapD_names hw
  subst e1
  obtain ⟨lx, ly, el⟩ := two_local e2
  have sw := swap_ok s.sc ss.kind hw
  rw [el] at sw e3
  have hxy : x ≠ y := fun z => by
    subst z
    have : ([x, x] : List Str).eraseDups = [x] := by simp [List.eraseDups_cons]
    rw [this] at e3
    cases e3
  have gx := (s.slot (slotL_of h2).1).1
  have gy := (s.slot (slotL_of h3).1).1
  have hij : i ≠ j := fun z => by
    subst z
    rw [gx] at gy
    exact hxy (Option.some.inj gy)
  rw [wr_frzOf] at hW
  refine ps_frzOf (PS.imp (ps_par s.calm s.nd gx gy hij (by rw [s.sc]; exact lx) (by rw [s.sc]; exact ly) (pa_cons (S.E h4 H0 s) (pa_cons (S.E h5 H0 s) pa_nil (star_cons (notStar h5))) (star_cons (notStar h4))) sw swap_tup) fun D σ H hh => par_key (hW i List.mem_cons_self) (hW j (List.mem_cons_of_mem _ List.mem_cons_self)) hh)

theorem appOf_eq {e a : Expr} {x : Str} (h : appOf e = some (x, a)) : ∃ q ap p, e = .Call (.Attribute (.Name x q) "append" ap) [a] [] p ∧ (ap.endLine == p.line) = true := by
  unfold appOf at h
  split at h
  · split at h
    · rename_i c
      have h := Option.some.inj h
      cases h
      obtain ⟨c1, c2⟩ := ba c
      have := of_decide_eq_true c1
      subst this
      exact ⟨_, _, _, rfl, by rw [of_decide_eq_true c2]; exact beq_self_eq_true _⟩
    · exact nomatch h
  · exact nomatch h
theorem app_key {i : Nat} {m : Rho → M Val} {D : Ends} {σ : L2.St} {H : Hp}
    (h : tS W A0 X.K H0 (fun ρ => ((m ρ).bind Val.asD).bind fun x => (match ρ[i]? with
      | some (some (.own (.list xs))) => if Nat.blt xs.length 16777216 = true then .ok (ρ.set i (some (.own (.list (xs ++ [x])))), .nx) else .bad
      | _ => .bad)) D σ H) : tDrop (tBM X.K "list" rAppend (tVar i) (tCons (tD (C0 X.K H0) m) tNil)) D σ H := by
  obtain ⟨A, ρ, env, g, hs⟩ := h
  have hs : (((m ρ).bind Val.asD).bind _).Sat _ _ := hs
  rw [M.bind_assoc, M.sat_bind] at hs
  have he : ∃ ds, ρ[i]? = some (some (.own (.list ds))) := by
    obtain ⟨x, hx⟩ := hs.ex
    rw [M.sat_bind] at hx
    obtain ⟨d, rfl, hd⟩ := asD_sat hx
    split at hd
    · exact ⟨_, by assumption⟩
    · exact hd.elim
  obtain ⟨ds, ei⟩ := he
  rw [ei] at hs
  obtain ⟨v, ev, a, xs, ds', rfl, e2, ha, hd, na, h0⟩ := env.at_ i _ ei
  cases e2
  refine ⟨_, ev, .inl ⟨rfl, xs, .inl (.inl ha)⟩, A, ρ, env, hs.mono (fun x hx A1 w H1 g1 r1 => ?_) fun _ _ z => z.elim⟩
  rw [M.sat_bind] at hx
  obtain ⟨d, rfl, hx⟩ := asD_sat hx
  have hx : (if Nat.blt ds.length 16777216 = true then M.ok (ρ.set i (some (.own (.list (ds ++ [d])))), Fl.nx) else .bad).Sat _ _ := hx
  by_cases hl : Nat.blt ds.length 16777216 = true
  · rw [if_pos hl] at hx
    have env1 := env.grow g1
    obtain ⟨v', ev', a', xs', ds'', e1, e2, ha', hd', na', h0'⟩ := env1.at_ i _ ei
    rw [ev] at ev'
    cases ev'
    cases e1
    cases e2
    have hlt : ds.length < 16777216 := by
      have z : Nat.ble (ds.length + 1) 16777216 = true := hl
      have := Nat.le_of_ble_eq_true z
      omega
    refine ⟨a, xs', w, rfl, rfl, ha', ?_, ?_⟩
    · rw [hd'.length, sizeLine_eq]
      exact hlt
    · have ne : ∀ b, A b → b ≠ a := fun b hb z => by
        subst z
        exact na hb
      refine hx A1 σ _ ⟨env1.app ei ev ha' hd' na' h0 r1, ⟨fun b o hb e => ?_, fun b o u e => ?_⟩, g1.sub, ?_, fun _ _ => rfl⟩
      · rw [upd_ne (ne b hb)]
        exact g1.same _ _ e
      · have hne : b ≠ a := fun z => by
          subst z
          rw [ha] at e
          cases e
        rw [upd_ne hne]
        exact g1.same _ _ e
      · have g2 := g.trans g1
        refine ⟨fun b o e => ?_, g2.sub, g2.new, fun b hb => ?_⟩
        · have hne : b ≠ a := fun z => by
            subst z
            rw [show H0 b = none from h0] at e
            cases e
          rw [upd_ne hne]
          exact g2.same _ _ e
        · obtain ⟨o, e⟩ := g2.ok b hb
          have hne : b ≠ a := fun z => by
            subst z
            exact na' hb
          exact ⟨o, by rw [upd_ne hne]; exact e⟩
  · rw [if_neg hl] at hx
    exact hx.elim
theorem st_app (S : Snd n call k) (ss : SS X tc n call) {e a : Expr} {x : Str} {p : Pos} {sx : Sx} (ha : appOf e = some (x, a)) (h : (slotOf tc x).bind (fun i => (trE k tc a).map fun y => frzOf tc (varsE y) (.app i y)) = some sx) : PS X (.Expr e p) (tS W A0 X.K H0 (evalS call sx)) := by
  have s := ss.sx
  obtain ⟨q, ap, p2, rfl, hl⟩ := appOf_eq ha
  obtain ⟨i, h1, h⟩ := bindO h
  obtain ⟨y, h2, rfl⟩ := mapO h
  obtain ⟨hN, hv, hd, hcd⟩ := s.slot h1
  have st := star_cons (es := []) (env := X.env) (notStar h2)
  refine ps_frzOf (PS.imp (ps_expr (pe_bm PySem.F.plainAttrs_list PySem.F.slot_list_append PySem.F.type_list_append mt_append (pe_var hN hv hd hcd) (pa_cons (S.E h2 H0 s) pa_nil st) (by rfl) ?_ hl st (by rfl))) fun D σ H hh => app_key hh)
  exact few_ok (noStar_cons (notStar h2) rfl) (by show 1 < 20; decide)

theorem subOf_eq {t i : Expr} {x : Str} (h : subOf t = some (x, i)) : ∃ q p, t = .Subscript (.Name x q) i p ∧ ∀ a b c d, i ≠ .Slice a b c d := by
  unfold subOf at h
  split at h
  · split at h
    · exact nomatch h
    · rename_i hn
      have h := Option.some.inj h
      cases h
      exact ⟨_, _, rfl, fun a b c d z => hn a b c d z⟩
  · exact nomatch h
theorem setI_eq {ρ : Rho} {i : Nat} {k : Int} {x : D} {Q : Rho → Prop} {E : Nat → List D → Prop} (h : (setI ρ i k x).Sat Q E) : ∃ ds j, ρ[i]? = some (some (.own (.list ds))) ∧ ixN ds.length k = some j ∧ Q (ρ.set i (some (.own (.list (ds.set j x))))) := by
  unfold setI at h
  split at h
  · split at h
    · exact ⟨_, _, by assumption, by assumption, h⟩
    · exact h.elim
  · exact h.elim
theorem DAs.set {A : Addr → Prop} {K : PySem.W.Frag} {H : Hp} : ∀ {vs : List V} {ds : List D} {v : V} {d : D} (j : Nat), DAs A K H vs ds → DA A K H v d → DAs A K H (vs.set j v) (ds.set j d)
  | _, _, _, _, _, .nil, _ => .nil
  | _, _, _, _, 0, .cons _ t, h => .cons h t
  | _, _, _, _, j + 1, .cons a t, h => .cons a (DAs.set j t h)
/-- a made list is changed -/
theorem EnvR.put {C : EC} {A : Addr → Prop} {H : Hp} {σ : L2.St} {ρ : Rho} (env : EnvR C A H σ ρ) {i : Nat} {a : Addr} {xs ys : List V} {ds es : List D} (ei : ρ[i]? = some (some (.own (.list ds)))) (es' : σ[i]? = some (some (.ref a))) (ha : H a = some (.lst xs)) (hd : DAs A C.K H ys es) (na : ¬ A a) (h0 : C.H0 a = none) :
    EnvR C A (upd H a (.lst ys)) σ (ρ.set i (some (.own (.list es)))) := by
  have hl : i < ρ.length := (List.getElem?_eq_some_iff.mp ei).1
  refine ⟨fun b hb => ?_, by rw [List.length_set]; exact env.len, fun j s e => ?_, fun j k x y b hjk ej ek eb => ?_⟩
  · obtain ⟨o, eo⟩ := env.aok b hb
    have hne : b ≠ a := fun z => by
      subst z
      exact na hb
    exact ⟨o, by rw [upd_ne hne]; exact eo⟩
  · by_cases h : i = j
    · subst h
      rw [List.getElem?_set_self hl] at e
      cases e
      exact ⟨_, es', a, ys, es, rfl, rfl, upd_same, hd.put ha na, na, h0⟩
    · rw [List.getElem?_set_ne h] at e
      obtain ⟨w, ew, r⟩ := env.at_ j s e
      refine ⟨w, ew, ?_⟩
      cases s with
      | v z => exact Rep.put ha na r
      | own z =>
        obtain ⟨b, zs, fs, rfl, rfl, hb, hds, nb2, hb0⟩ := r
        have hne : b ≠ a := fun z => by
          subst z
          exact env.apart i j _ _ b h ei e es' ew
        exact ⟨b, zs, fs, rfl, rfl, by rw [upd_ne hne]; exact hb, hds.put ha na, nb2, hb0⟩
  · have back : ∀ {j : Nat} {x : D}, (ρ.set i (some (.own (.list es))))[j]? = some (some (.own x)) → ∃ x', ρ[j]? = some (some (.own x')) := fun {j x} e => by
      by_cases h : i = j
      · subst h
        exact ⟨_, ei⟩
      · rw [List.getElem?_set_ne h] at e
        exact ⟨_, e⟩
    obtain ⟨x', ej⟩ := back ej
    obtain ⟨y', ek⟩ := back ek
    exact env.apart j k x' y' b hjk ej ek eb
theorem put_post {A A1 : Addr → Prop} {K : PySem.W.Frag} {H H1 : Hp} {σ : L2.St} {ρ : Rho} {a : Addr} {xs ys : List V} (env : EnvR (C0 K H0) A1 (upd H1 a (.lst ys)) σ ρ) (g : Grow A0 H0 A H) (g1 : Grow A H A1 H1) (ha : H1 a = some (.lst xs)) (na : ¬ A1 a) (h0 : H0 a = none) (hf : ∀ o u, H a ≠ some (.frz o u)) (hA : ¬ A a) :
    Post W A0 K H0 A H σ A1 σ (upd H1 a (.lst ys)) ρ := by
  refine ⟨env, ⟨fun b o hb e => ?_, fun b o u e => ?_⟩, g1.sub, ?_, fun _ _ => rfl⟩
  · have hne : b ≠ a := fun z => by
      subst z
      exact hA hb
    rw [upd_ne hne]
    exact g1.same _ _ e
  · have hne : b ≠ a := fun z => by
      subst z
      exact hf o u e
    rw [upd_ne hne]
    exact g1.same _ _ e
  · have g2 := g.trans g1
    refine ⟨fun b o e => ?_, g2.sub, g2.new, fun b hb => ?_⟩
    · have hne : b ≠ a := fun z => by
        subst z
        rw [h0] at e
        cases e
      rw [upd_ne hne]
      exact g2.same _ _ e
    · obtain ⟨o, e⟩ := g2.ok b hb
      have hne : b ≠ a := fun z => by
        subst z
        exact na hb
      exact ⟨o, by rw [upd_ne hne]; exact e⟩
/-- the reading of a store at a made list's place -/
theorem sub_step2 {A A1 : Addr → Prop} {H H1 : Hp} {σ : L2.St} {ρ : Rho} {i : Nat} {mi : Rho → M Val} {v v2 : V} {d d2 : D} {P : Rho → Prop} {Q : L2.St → Hp → Prop} (env : EnvR (C0 X.K H0) A H σ ρ) (g : Grow A0 H0 A H) (g1 : Grow A H A1 H1) (r1 : DA A1 X.K H1 v d) (r2 : DA A1 X.K H1 v2 d2)
    (hs : ((mi ρ).bind asI).Sat (fun k => (setI ρ i k d).Sat P (fun _ _ => False)) (fun _ _ => False)) (hQ : ∀ A2 H2 ρ2, P ρ2 → Post W A0 X.K H0 A H σ A2 σ H2 ρ2 → DA A2 X.K H2 v2 d2 → Q σ H2) :
    gSub (tVar i) (tD (C0 X.K H0) mi) rSetL v σ H1 Q := by
  have env1 := env.grow g1
  obtain ⟨w0, hw0⟩ : ∃ w, σ[i]? = some (some w) := by
    obtain ⟨k, hk⟩ := hs.ex
    obtain ⟨ds, j, ei, _, _⟩ := setI_eq hk
    obtain ⟨v, ev, _⟩ := env.at_ i _ ei
    exact ⟨v, ev⟩
  refine ⟨w0, hw0, A1, ρ, env1, ?_⟩
  rw [M.sat_bind] at hs
  refine hs.mono (fun x hx A2 w H2 g2 r3 => ?_) fun _ _ z => z.elim
  obtain ⟨k, rfl, hk⟩ := asI_sat hx
  cases r3
  obtain ⟨ds, j, ei, ej, hP⟩ := setI_eq hk
  have env2 := env1.grow g2
  obtain ⟨v', ev', a, xs, ds', e1, e2, ha, hd, na, h0⟩ := env2.at_ i _ ei
  rw [hw0] at ev'
  cases ev'
  cases e1
  cases e2
  obtain ⟨v3, ev3, a3, xs3, ds3, e4, e5, ha3, hd3, na3, h03⟩ := env.at_ i _ ei
  rw [hw0] at ev3
  cases ev3
  cases e4
  refine ⟨a, xs, k, j, rfl, rfl, ha, by rw [hd.length]; exact ej, ?_⟩
  refine hQ A2 _ _ hP (put_post (env2.put ei hw0 ha (DAs.set j hd (r1.grow g2)) na h0) g (g1.trans g2) ha na h0 (fun o u z => ?_) na3) ((r2.grow g2).put ha na)
  rw [ha3] at z
  cases z
theorem seti_key {i : Nat} {mi m : Rho → M Val} {D : Ends} {σ : L2.St} {H : Hp} (h : tS W A0 X.K H0 (fun ρ => ((m ρ).bind Val.asD).bind fun x => ((mi ρ).bind asI).bind fun k => (setI ρ i k x).bind fun ρ2 => .ok (ρ2, .nx)) D σ H) :
    tAsg (tD (C0 X.K H0) m) (gSub (tVar i) (tD (C0 X.K H0) mi) rSetL) D σ H := by
  obtain ⟨A, ρ, env, g, hs⟩ := h
  have hs : (((m ρ).bind Val.asD).bind _).Sat _ _ := hs
  rw [M.bind_assoc, M.sat_bind] at hs
  refine ⟨A, ρ, env, hs.mono (fun x hx A1 v H1 g1 r1 => ?_) fun _ _ z => z.elim⟩
  rw [M.sat_bind] at hx
  obtain ⟨d, rfl, hd⟩ := asD_sat hx
  rw [M.sat_bind] at hd
  refine sub_step2 (W := W) (P := fun ρ2 => _) env g g1 r1 r1 (hd.mono (fun k hk => by rw [M.sat_bind] at hk; exact hk) fun _ _ z => z) fun A2 H2 ρ2 hP P _ => ?_
  exact hP A2 σ H2 P
theorem swap_sub {o i e : Expr} {p : Pos} {line : Nat} : swapsWithSole [.Subscript o i p] e line X.env = pure false := by
  cases e <;> rfl
theorem asg_sub {o i : Expr} {p : Pos} (hns : ∀ a b c d, i ≠ .Slice a b c d) : ∀ v, assign (.Subscript o i p) X.env v = (do
      let ov ← holding [v] (eval o X.env)
      let iv ← holding [v, ov] (eval i X.env)
      standAt p
      holding [v, ov, iv] (setItem ov iv v)
      release [v, ov, iv] []) := by
  intro v
  cases i <;> first | rfl | exact absurd rfl (hns _ _ _ _)
theorem st_seti (S : Snd n call k) (ss : SS X tc n call) {t e : Expr} {u : Str × Expr} {p : Pos} {sx : Sx} (hu : subOf t = some u)
    (h : (if isComp e then none else (slotL tc u.1).bind fun i => (trE k tc u.2).bind fun ix => (trE k tc e).map fun y => frzOf tc (varsE y ++ varsE ix) (.seti i ix y)) = some sx) : PS X (.Assign [t] e p) (tS W A0 X.K H0 (evalS call sx)) := by
  have s := ss.sx
  obtain ⟨x, ie⟩ := u
  obtain ⟨q, p2, rfl, hns⟩ := subOf_eq hu
  split at h
  · cases h
  · obtain ⟨i, h1, h⟩ := bindO h
    obtain ⟨ix, h2, h⟩ := bindO h
    obtain ⟨y, h3, rfl⟩ := mapO h
    obtain ⟨hN, hv, hd, hcd⟩ := s.slot (slotL_of h1).1
    exact ps_frzOf (PS.imp (ps_asg (S.E h3 H0 s) (pg_sub (pe_var hN hv hd hcd) (S.E h2 H0 s) set_list (asg_sub hns)) swap_sub (by cases e <;> rfl) (by rfl)) fun D σ H hh => seti_key hh)
theorem sub2Of_eq {t : Expr} {u : (Str × Expr) × Str} (h : sub2Of t = some u) : ∃ t1 q kd p, t = .Tuple [t1, .Name u.2 q] kd p ∧ subOf t1 = some u.1 := by
  unfold sub2Of at h
  split at h
  · obtain ⟨v, h1, rfl⟩ := mapO h
    exact ⟨_, _, _, _, rfl, h1⟩
  · exact nomatch h
theorem two_eq {x : D} {Q : D × D → Prop} {E : Nat → List D → Prop} (h : (two x).Sat Q E) : ∃ a b, x = .tuple [a, b] ∧ Q (a, b) := by
  unfold two at h
  split at h
  · exact ⟨_, _, rfl, h⟩
  · exact h.elim
theorem asg2_key {i j : Nat} (hj : W j) {mi m : Rho → M Val} {D : Ends} {σ : L2.St} {H : Hp}
    (h : tS W A0 X.K H0 (fun ρ => ((m ρ).bind Val.asD).bind fun x => (two x).bind fun p => ((mi ρ).bind asI).bind fun k => (setI ρ i k p.1).bind fun ρ2 => .ok (ρ2.set j (some (.v (.d p.2))), .nx)) D σ H) :
    tAsg (tD (C0 X.K H0) m) (gTup X.K 2 (gCons (gSub (tVar i) (tD (C0 X.K H0) mi) rSetL) (gCons (gName j) gNil))) D σ H := by
  obtain ⟨A, ρ, env, g, hs⟩ := h
  have hs : (((m ρ).bind Val.asD).bind _).Sat _ _ := hs
  rw [M.bind_assoc, M.sat_bind] at hs
  refine ⟨A, ρ, env, hs.mono (fun x hx A1 v H1 g1 r1 => ?_) fun _ _ z => z.elim⟩
  rw [M.sat_bind] at hx
  obtain ⟨d, rfl, hd⟩ := asD_sat hx
  rw [M.sat_bind] at hd
  obtain ⟨d1, d2, e12, hd2⟩ := two_eq hd
  clear hd
  subst e12
  rw [M.sat_bind] at hd2
  cases r1 with
  | tup hq hr =>
    cases hr with
    | cons r1 hr =>
      cases hr with
      | cons r2 hr =>
        cases hr
        refine ⟨_, _, rfl, hq.sq, rfl, _, _, rfl, ?_⟩
        refine sub_step2 (W := W) (P := fun ρ2 => _) env g g1 r1 r2 (hd2.mono (fun k hk => by rw [M.sat_bind] at hk; exact hk) fun _ _ z => z) fun A2 H2 ρ2 hP P r3 => ?_
        refine ⟨_, _, rfl, rfl, ?_⟩
        exact hP A2 _ H2 ⟨P.env.setV (x := .d d2) r3, P.keep, P.sub, P.grow, stay_set hj⟩
theorem st_asg2 (S : Snd n call k) (ss : SS X tc n call) {t e : Expr} {u : (Str × Expr) × Str} {p : Pos} {sx : Sx} (hu : sub2Of t = some u)
    (h : (if isTup e then none else (slotL tc u.1.1).bind fun i => (trE k tc u.1.2).bind fun ix => (slotL tc u.2).bind fun j => (trE k tc e).map fun y => frzOf tc (varsE y ++ varsE ix) (.asg2 i ix j y)) = some sx) (hW : ∀ i ∈ wrS sx, W i) : PS X (.Assign [t] e p) (tS W A0 X.K H0 (evalS call sx)) := by
  have s := ss.sx
  obtain ⟨⟨x, ie⟩, y⟩ := u
  obtain ⟨t1, q, kd, p2, rfl, h1⟩ := sub2Of_eq hu
  obtain ⟨q2, p3, rfl, hns⟩ := subOf_eq h1
  split at h
  · cases h
  · rename_i hnt
    obtain ⟨i, h2, h⟩ := bindO h
    obtain ⟨ix, h3, h⟩ := bindO h
    obtain ⟨j, h4, h⟩ := bindO h
    obtain ⟨z, h5, rfl⟩ := mapO h
    obtain ⟨hN, hv, hd, hcd⟩ := s.slot (slotL_of h2).1
    have hy := (s.slot (slotL_of h4).1).1
    obtain ⟨hl, hf⟩ := ss.nm y j h4
    have hnt : ∀ a b c, e ≠ .Tuple a b c := fun a b c z => by
      subst z
      exact hnt rfl
    have hw : swappedStores [.Tuple [.Subscript (.Name x q2) ie p3, .Name y q] kd p2] e X.env = pure none := by
      cases e <;> first | rfl | exact absurd rfl (hnt _ _ _)
    exact ps_frzOf (PS.imp (ps_asg (S.E h5 H0 s) (pg_tup s.calm (pgs_cons (pg_sub (pe_var hN hv hd hcd) (S.E h3 H0 s) set_list (asg_sub hns)) (pgs_cons (pg_name s.nd hy hl hf) pgs_nil)) (by rfl) (by rfl)) swap_tup hw (by rfl)) fun D σ H hh => asg2_key (hW j (by rw [wr_frzOf]; exact List.mem_cons_self)) hh)

theorem if_key {mc : Rho → M Bool} {ma mb : Rho → M (Rho × Fl)} {D : Ends} {σ : L2.St} {H : Hp} (h : tS W A0 X.K H0 (fun ρ => (mc ρ).bind fun k => if k = true then ma ρ else mb ρ) D σ H) : tIfS (tT (C0 X.K H0) mc) (tS W A0 X.K H0 ma) (tS W A0 X.K H0 mb) D σ H := by
  obtain ⟨A, ρ, env, g, hs⟩ := h
  have hs : ((mc ρ).bind _).Sat _ _ := hs
  rw [M.sat_bind] at hs
  refine ⟨A, ρ, env, hs.mono (fun b hb A1 H1 g1 => ?_) fun _ _ z => z.elim⟩
  cases b with
  | true => exact ⟨A1, ρ, env.grow g1, g.trans g1, (show (ma ρ).Sat _ _ from hb).mono (fun p q A' σ' H' P => q A' σ' H' (P.grow1 g1)) fun _ _ z => z⟩
  | false => exact ⟨A1, ρ, env.grow g1, g.trans g1, (show (mb ρ).Sat _ _ from hb).mono (fun p q A' σ' H' P => q A' σ' H' (P.grow1 g1)) fun _ _ z => z⟩
theorem ret_key {m : Rho → M Val} {D : Ends} {σ : L2.St} {H : Hp} (h : tS W A0 X.K H0 (fun ρ => (m ρ).bind fun x => .ok (ρ, .rt x)) D σ H) : tRet (tD (C0 X.K H0) m) D σ H := by
  obtain ⟨A, ρ, env, g, hs⟩ := h
  have hs : ((m ρ).bind _).Sat _ _ := hs
  rw [M.sat_bind] at hs
  exact ⟨A, ρ, env, hs.mono (fun x hx A1 v H1 g1 r1 => hx A1 σ H1 ⟨env.grow g1, Keep.of_grow g1, g1.sub, g.trans g1, fun _ _ => rfl⟩ v r1) fun _ _ z => z.elim⟩
theorem exp_key {m : Rho → M Val} {D : Ends} {σ : L2.St} {H : Hp} (h : tS W A0 X.K H0 (fun ρ => (m ρ).bind fun _ => .ok (ρ, .nx)) D σ H) : tDrop (tD (C0 X.K H0) m) D σ H := by
  obtain ⟨A, ρ, env, g, hs⟩ := h
  have hs : ((m ρ).bind _).Sat _ _ := hs
  rw [M.sat_bind] at hs
  exact ⟨A, ρ, env, hs.mono (fun x hx A1 v H1 g1 r1 => hx A1 σ H1 ⟨env.grow g1, Keep.of_grow g1, g1.sub, g.trans g1, fun _ _ => rfl⟩) fun _ _ z => z.elim⟩
theorem for_key {tg : Tg} (hW : ∀ i ∈ tgSlots tg, W i) {mi : Rho → M (List D)} {mb : Rho → M (Rho × Fl)} {D : Ends} {σ : L2.St} {H : Hp} (h : tS W A0 X.K H0 (fun ρ => (mi ρ).bind fun xs => forM (fun x ρ1 => (asgD tg x ρ1).bind fun ρ2 => mb ρ2) xs ρ) D σ H) :
    tFor (tIx (C0 X.K H0) Keep mi) (tG (C0 X.K H0) tg) (tS W A0 X.K H0 mb) D σ H := by
  obtain ⟨A, ρ, env, g, hs⟩ := h
  have hs : ((mi ρ).bind _).Sat _ _ := hs
  rw [M.sat_bind] at hs
  refine ⟨A, ρ, env, hs.mono (fun xs hx A1 H1 J g1 w => ?_) fun _ _ z => z.elim⟩
  obtain ⟨vs, hd, wgo, wst, wy⟩ := w.ex
  let f : Dv.D → Rho → M (Rho × Fl) := fun x ρ1 => (asgD tg x ρ1).bind fun ρ2 => mb ρ2
  let In : Nat → L2.St → Hp → Prop := fun i σ2 H2 => ∃ A2 ρ2, Post W A0 X.K H0 A1 H1 σ A2 σ2 H2 ρ2 ∧ (forM f (xs.drop i) ρ2).Sat (fun p => ∀ A' σ' H', Post W A0 X.K H0 A H σ A' σ' H' p.1 → endD D X.K A' σ' H' p.2) (fun _ _ => False)
  refine ⟨fun i m σ2 H2 => m = xs.length - i ∧ i ≤ xs.length ∧ In i σ2 H2, ⟨xs.length, rfl, Nat.zero_le _, A1, ρ, Post.refl (env.grow g1) (g.trans g1), hx⟩, ?_⟩
  rintro i m σ2 H2 ⟨rfl, hi, A2, ρ2, P, hq⟩
  by_cases hlt : i < xs.length
  · refine .inr ⟨wgo i H2 P.keep hlt, fun σ' H' => In (i + 1) σ' H', fun σ' H' hN => ⟨xs.length - (i + 1), by omega, rfl, hlt, hN⟩, fun x H3 y => ?_⟩
    obtain ⟨rfl, ex⟩ := wy i H2 x H3 P.keep hlt y
    obtain ⟨d, e1, hx1⟩ := hd.getV ex
    have ed : xs.drop i = d :: xs.drop (i + 1) := by
      rw [List.drop_eq_getElem_cons hlt]
      rw [List.getElem?_eq_getElem hlt] at e1
      rw [Option.some.inj e1]
    rw [ed] at hq
    have hq : (((asgD tg d ρ2).bind fun ρ2 => mb ρ2).bind _).Sat _ _ := hq
    rw [M.sat_bind, M.sat_bind] at hq
    refine ⟨A2, ρ2, d, P.env, (hx1.keep P.keep).sub P.sub, hq.mono (fun ρ3 q σ3 e3 hw => ?_) fun _ _ z => z⟩
    refine ⟨A2, ρ3, e3, P.grow, q.mono (fun p r A' σ' H' P2 => ?_) fun _ _ z => z⟩
    have P3 : Post W A0 X.K H0 A1 H1 σ A' σ' H' p.1 := P.after ⟨P2.env, P2.keep, P2.sub, P2.grow, fun j hj => (P2.stay j hj).trans (stay_wipe hW hw j hj)⟩
    obtain ⟨p1, p2⟩ := p
    cases p2 with
    | nx => exact ⟨A', p1, P3, r⟩
    | ct => exact ⟨A', p1, P3, r⟩
    | bk => exact r A' σ' H' (P3.grow1 g1)
    | rt v => exact r A' σ' H' (P3.grow1 g1)
  · have e : xs.drop i = [] := List.drop_eq_nil_of_le (by omega)
    have ei : i = xs.length := by omega
    rw [e] at hq
    refine .inl ⟨by rw [ei]; exact wst H2 P.keep, ?_⟩
    exact hq A2 σ2 H2 (P.grow1 g1)
/-- all that k steps of fuel translate -/
structure SndS (X : Cx) (tc : TC) (n : Nat) (call : CallT) (W : Nat → Prop) (A0 : Addr → Prop) (H0 : Hp) (k : Nat) : Prop where
  S : ∀ {st : Stmt} {sx : Sx}, trS k tc st = some sx → (∀ i ∈ wrS sx, W i) → PS X st (tS W A0 X.K H0 (evalS call sx))
  Ss : ∀ {sts : List Stmt} {sx : Sxs}, trSs k tc sts = some sx → (∀ i ∈ wrSs sx, W i) → PSs X sts (tS W A0 X.K H0 (evalSs call sx))
theorem trJ_notSet {e : Expr} {ix : Ix} (h : trJ k tc e = some ix) : ∀ a b p, e ≠ .Set a b p := fun a b p z => by
  subst z
  cases k with
  | zero => cases h
  | succ k =>
    have h : (trE k tc (.Set a b p)).map Ix.seq = some ix := h
    obtain ⟨x, h1, _⟩ := mapO h
    cases k with
    | zero => cases h1
    | succ k => exact nomatch (show (none : Option Ex) = some x from h1)
theorem oneT_eq {ts : List Expr} {t : Expr} (h : oneT ts = some t) : ts = [t] := by
  unfold oneT at h
  split at h
  · cases h
    rfl
  · cases h
theorem st_S (ss : SS X tc n call) (I : SndS X tc n call W A0 H0 k) {st : Stmt} {sx : Sx} (h : trS (k + 1) tc st = some sx) (hW : ∀ i ∈ wrS sx, W i) : PS X st (tS W A0 X.K H0 (evalS call sx)) := by
  have S := snd_all (n := n) (call := call) k
  have s := ss.sx
  cases st with
  | Assign ts e p =>
    have h : (oneT ts).bind (fun t => _) = some sx := h
    obtain ⟨t, h1, hq⟩ := bindO h
    clear h
    have := oneT_eq h1
    subst this
    cases hs : subOf t with
    | some u =>
      rw [hs] at hq
      exact st_seti S ss hs hq
    | none =>
      rw [hs] at hq
      cases hs2 : sub2Of t with
      | some u =>
        simp only [hs2] at hq
        exact st_asg2 S ss hs2 hq hW
      | none =>
        simp only [hs2] at hq
        obtain ⟨r, h2, h3⟩ := bindO hq
        cases r with
        | none => exact st_asg S ss h2 h3 hW
        | some ns => exact st_par S ss h2 h3 hW
  | Expr e p =>
    have h : (match appOf e with
      | some u => (slotOf tc u.1).bind fun i => (trE k tc u.2).map fun y => frzOf tc (varsE y) (Sx.app i y)
      | none => if isComp e then none else (trE k tc e).map fun y => frzOf tc (varsE y) (.exp y)) = some sx := h
    cases ha : appOf e with
    | some u =>
      rw [ha] at h
      exact st_app S ss ha h
    | none =>
      rw [ha] at h
      have h : (if isComp e then none else (trE k tc e).map fun y => frzOf tc (varsE y) (Sx.exp y)) = some sx := h
      cases hc : isComp e with
      | true => rw [hc] at h; cases h
      | false =>
        rw [hc, if_neg Bool.false_ne_true] at h
        obtain ⟨y, h1, rfl⟩ := mapO h
        exact ps_frzOf (PS.imp (ps_expr (S.E h1 H0 s) (swap_no hc)) fun D σ H hh => exp_key hh)
  | If c a b p =>
    have h : (trE k tc c).bind (fun x => (trSs k tc a).bind fun y => (trSs k tc b).map fun z => frzOf tc (varsE x) (Sx.ifs x y z)) = some sx := h
    obtain ⟨x, h1, h⟩ := bindO h
    obtain ⟨y, h2, h⟩ := bindO h
    obtain ⟨z, h3, rfl⟩ := mapO h
    rw [wr_frzOf] at hW
    exact ps_frzOf (PS.imp (ps_if (S.T h1 H0 s) (I.Ss h2 fun i hi => hW i (List.mem_append_left _ hi)) (I.Ss h3 fun i hi => hW i (List.mem_append_right _ hi))) fun D σ H hh => if_key hh)
  | For tg it b els p =>
    have h : (if els.isEmpty then (trJ k tc it).bind fun i => (trTg tc tg).bind fun g => (trSs k tc b).map fun y => frzOf tc (varsI i) (Sx.loop g i y) else none) = some sx := h
    cases els with
    | cons _ _ => cases h
    | nil =>
      have h : (trJ k tc it).bind (fun i => (trTg tc tg).bind fun g => (trSs k tc b).map fun y => frzOf tc (varsI i) (Sx.loop g i y)) = some sx := h
      obtain ⟨i, h1, h⟩ := bindO h
      obtain ⟨g, h2, h⟩ := bindO h
      obtain ⟨y, h3, rfl⟩ := mapO h
      rw [wr_frzOf] at hW
      exact ps_frzOf (PS.imp (ps_for s.pass s.calm (S.J h1 H0 s) (tg_ok s.nd s.N s.calm h2 fun x i hx _ => ss.nm x i hx) (I.Ss h3 fun i hi => hW i (List.mem_append_right _ hi)) (noFold (trJ_notSet h1))) fun D σ H hh => for_key (fun i hi => hW i (List.mem_append_left _ hi)) hh)
  | Return o p =>
    cases o with
    | some e =>
      have h : (trE k tc e).map (fun y => frzOf tc (varsE y) (Sx.ret y)) = some sx := h
      obtain ⟨y, h1, rfl⟩ := mapO h
      exact ps_frzOf (PS.imp (ps_ret (S.E h1 H0 s)) fun D σ H hh => ret_key hh)
    | none =>
      have h := Option.some.inj (show some Sx.retn = some sx from h)
      subst h
      exact PS.imp ps_retN fun D σ H ⟨A, ρ, env, g, hs⟩ => hs A σ H (Post.refl env g) .non .non
  | Pass p =>
    have h := Option.some.inj (show some Sx.pass = some sx from h)
    subst h
    exact PS.imp ps_pass fun D σ H ⟨A, ρ, env, g, hs⟩ => hs A σ H (Post.refl env g)
  | Continue p =>
    have h := Option.some.inj (show some Sx.cont = some sx from h)
    subst h
    exact PS.imp ps_continue fun D σ H ⟨A, ρ, env, g, hs⟩ => hs A σ H (Post.refl env g)
  | Raise a b p =>
    have h := Option.some.inj (show some Sx.raise = some sx from h)
    subst h
    exact PS.imp ps_never fun D σ H ⟨A, ρ, env, g, hs⟩ => hs
  | _ => exact nomatch (show (none : Option Sx) = some sx from h)
theorem st_Ss (I : SndS X tc n call W A0 H0 k) {sts : List Stmt} {sx : Sxs} (h : trSs (k + 1) tc sts = some sx) (hW : ∀ i ∈ wrSs sx, W i) : PSs X sts (tS W A0 X.K H0 (evalSs call sx)) := by
  cases sts with
  | nil =>
    have h := Option.some.inj (show some Sxs.nil = some sx from h)
    subst h
    exact PSs.imp pss_nil fun D σ H ⟨A, ρ, env, g, hs⟩ => hs A σ H (Post.refl env g)
  | cons st sts =>
    have h : (trS k tc st).bind (fun x => (trSs k tc sts).map fun y => Sxs.cons x y) = some sx := h
    obtain ⟨x, h1, h⟩ := bindO h
    obtain ⟨y, h2, rfl⟩ := mapO h
    refine PSs.imp (pss_cons (I.S h1 fun i hi => hW i (List.mem_append_left _ hi)) (I.Ss h2 fun i hi => hW i (List.mem_append_right _ hi))) fun D σ H hh => ?_
    obtain ⟨A, ρ, env, g, hs⟩ := hh
    have hs : ((evalS call x ρ).bind _).Sat _ _ := hs
    rw [M.sat_bind] at hs
    refine ⟨A, ρ, env, g, hs.mono (fun p q A' σ' H' P => ?_) fun _ _ z => z⟩
    obtain ⟨p1, p2⟩ := p
    cases p2 with
    | nx => exact ⟨A', p1, P.env, P.grow, (show (evalSs call y p1).Sat _ _ from q).mono (fun p2 q2 A2 σ2 H2 P2 => q2 A2 σ2 H2 (P.after P2)) fun _ _ z => z⟩
    | ct => exact q A' σ' H' P
    | bk => exact q A' σ' H' P
    | rt v => exact q A' σ' H' P
theorem st_all (ss : SS X tc n call) : ∀ k, SndS X tc n call W A0 H0 k
  | 0 => ⟨fun h => (nomatch h), fun h => (nomatch h)⟩
  | k + 1 => ⟨fun h hW => st_S ss (st_all ss k) h hW, fun h hW => st_Ss (st_all ss k) h hW⟩
end
end Dv
end
section
namespace Dv
open PySem PySem.Spec PyProof.Rows L2

/-- what the defs of a text stand on -/
structure Sur (P : Program) (w : World) (K : PySem.W.Frag) (mg : Str → Option Value) (base : Heap) (tc : TC) (n : Nat) (call : CallT) : Prop where
  free : ∀ x : Str, x ∈ (["len", "tuple", "list", "sorted", "min", "max", "all", "any", "sum", "repr", "abs", "divmod", "isinstance", "set", "range", "int", "bool", "str"] : List Str) → tc.fns.lookup x = none → mg x = none
  cons : ∀ x d, tc.cons.lookup x = some d → ∃ u v, (x == ("__debug__" : Str)) = false ∧ mg x = some u ∧ RelV v u ∧ ∀ A H, DA A K H v d
  fn : ∀ x k ps, tc.fns.lookup x = some (k, ps) → ∃ f fd, (x == ("__debug__" : Str)) = false ∧ mg x = some (.ref f) ∧ PySem.W.keepIn K (.ref f) = true ∧ PlainPs fd ps ∧ FnG P w K mg base n f fd ps (call k)
def runF (call : CallT) (np ns : Nat) (sx : Sxs) (vs : List Val) : M Val := if np = vs.length then (evalSs call sx (rhoOf ns vs)).bind endM else .bad
theorem env_start {K : PySem.W.Frag} {A : Addr → Prop} {H : Hp} {N : List Str} {vs : List V} {ds : List Val} (ha : AOk A H) (h : Reps A K H vs ds) : EnvR (C0 K H) A H (start N vs) (rhoOf N.length ds) := by
  have hl := h.length
  have key : ∀ {i : Nat} {s : Slot}, (rhoOf N.length ds)[i]? = some (some s) → ∃ x, ds[i]? = some x ∧ s = .v x := by
    intro i s e
    unfold rhoOf at e
    by_cases hi : i < ds.length
    · rw [List.getElem?_append_left (by rw [List.length_map]; exact hi), List.getElem?_map, List.getElem?_eq_getElem hi] at e
      cases e
      exact ⟨_, List.getElem?_eq_getElem hi, rfl⟩
    · rw [List.getElem?_append_right (by rw [List.length_map]; omega)] at e
      obtain ⟨_, e2⟩ := List.getElem?_eq_some_iff.mp e
      rw [List.getElem_replicate] at e2
      cases e2
  refine ⟨ha, ?_, fun i s e => ?_, fun i j x y a hij e1 e2 es => ?_⟩
  · unfold L2.start rhoOf
    rw [List.length_append, List.length_append, List.length_map, List.length_map, List.length_replicate, List.length_replicate, hl]
  · obtain ⟨x, e1, rfl⟩ := key e
    obtain ⟨v, e2, r⟩ := h.get e1
    refine ⟨v, ?_, r⟩
    have hi := (List.getElem?_eq_some_iff.mp e2).1
    unfold L2.start
    rw [List.getElem?_append_left (by rw [List.length_map]; exact hi), List.getElem?_map, e2]
    rfl
  · obtain ⟨x, _, z⟩ := key e1
    cases z
theorem fnG_of {P : Program} {w : World} {K : PySem.W.Frag} {mg : Str → Option Value} {base : Heap} {n k : Nat} {call : CallT} {tc : TC} {x qual : Str} {params : Arguments} {body : List Stmt} {dvs : List V} {kws : List (Str × V)} {f : Addr} {fd : FuncData} {ps : List Str} {sx : Sxs}
    (F : FunD K x qual params body tc.sc dvs kws f fd) (Sc : FnScope tc.N ps tc.sc) (Su : Sur P w K mg base tc n call) (dbg : ∀ x ∈ tc.N, (x == ("__debug__" : Str)) = false ∧ (x == ("__classdict__" : Str)) = false) (tr : trSs k tc body = some sx) {np ns : Nat} (hnp : np = ps.length) (hns : ns = tc.N.length) :
    FnG P w K mg base (n + 1) f fd ps (runF call np ns sx) := by
  subst hnp hns
  obtain ⟨oc, od, dV, kV, doc, pm, an, cdv, ct, osl, rfl, hlk, hcd, _, _⟩ := F.ex
  intro Ar outer s H args us vs ds A Q hr hg e0 hb r hl ha hd hs
  have inK : K.In s.heap := e0.mod.kin.keeps fun b o e => (e0.bs b o e).1
  have nolim : s.heap.NoLimit := e0.mod.nolimit.keeps fun b o e => (e0.bs b o e).1
  have kinds : ∀ y ∈ ps.zip us, tc.sc.names.lookup y.1 = some .local ∨ (tc.sc.names.lookup y.1 = some .cell ∧ ((cellsFrom (s.heap.objs.size + 1) tc.sc.names []).lookup y.1).isSome = true) := by
    intro y hy
    obtain ⟨y1, y2⟩ := y
    have hp := (List.of_mem_zip hy).1
    exact (Sc.par y1 hp).imp id fun q => ⟨q, PySem.W.cellsFrom_some _ _ _ (.inl q)⟩
  refine codeAny_call_function hr.depth (inK _ _ hlk) rfl Sc.co Sc.gen rfl (PySem.W.codeRec_of inK hcd) (hb _ _ _ _ ?_)
  refine wpAny_newFunctionEnv_cells Sc.kind kinds fun fenv hfe s1 ic => ?_
  subst hfe
  refine ⟨nolim.keeps ic.toInCall.keep, codeAny_func ?_⟩
  have I : Inv (cxOf CX0 P w K mg base tc.N qual tc.sc f cdv Ar outer s H fun _ _ _ => False) [] (start tc.N vs) H s1 := inv_start Sc hr.hd e0 hl r ic
  have sx1 : SX (cxOf CX0 P w K mg base tc.N qual tc.sc f cdv Ar outer s H fun _ _ _ => False) tc n call :=
    ⟨rfl, Sc.nd, dbg, rfl, rfl, hr.deeper _, hg, PassesOwn.leaving, Su.free, Su.cons, Su.fn⟩
  have ss : SS (cxOf CX0 P w K mg base tc.N qual tc.sc f cdv Ar outer s H fun _ _ _ => False) tc n call := by
    refine ⟨sx1, fun x i h => ?_, Sc.kind⟩
    obtain ⟨h1, h2⟩ := slotL_of h
    unfold slotOf at h1
    split at h1
    · rename_i e
      exact ⟨.inl e, .inl rfl⟩
    · rename_i e
      exact ⟨.inr e, .inl rfl⟩
    · rename_i e
      exact absurd e h2
    · cases h1
  have run := (st_all (W := fun _ => True) (A0 := A) (H0 := H) ss k).Ss tr fun _ _ => True.intro
  have hlen : ps.length = ds.length := by rw [← hl]; exact hd.length
  unfold runF at hs
  rw [if_pos hlen, M.sat_bind] at hs
  have start_ok : tS (fun _ => True) A K H (evalSs call sx) { nx := fun _ H' => Q .non H', rt := Q } (start tc.N vs) H := by
    refine ⟨A, _, env_start ha hd, Grow.refl ha, hs.mono (fun p q A' σ' H' P => ?_) fun _ _ z => z⟩
    obtain ⟨p1, p2⟩ := p
    cases p2 with
    | nx => exact q A' .non H' P.grow .non
    | rt v => exact fun u ru => q A' u H' P.grow ru
    | bk => exact q.elim
    | ct => exact q.elim
  refine wpAny_mono (run.run [] s1 (start tc.N vs) H _ I start_ok) (fun fl s' hq => ?_) fun e s' hq => hq
  cases fl with
  | ret u =>
    obtain ⟨v, σ', H', J, rv, q⟩ := hq
    exact ⟨v, H', J.os, J.bare, J.base, J.hok, rv, q⟩
  | next =>
    obtain ⟨σ', H', J, q⟩ := hq
    exact ⟨V.non, H', J.os, J.bare, J.base, J.hok, rfl, q⟩
  | brk => exact (hq.elim fun _ z => z.elim fun _ z => z.2).elim
  | cont => exact (hq.elim fun _ z => z.elim fun _ z => z.2).elim
end Dv
end
section
namespace Dv
open PySem L2
section
variable (a b : Int)
theorem ord_int : ordB (.int a) (.int b) = true := rfl
theorem eqv_int : PyData.eqv (.int a) (.int b) = decide (a = b) := by
  unfold PyData.eqv
  by_cases h : a = b
  · simp [h]
  · simp [h]
theorem cmp_lt : cmpD .Lt (.int a) (.int b) = okd (.bool (decide (a < b))) := by
  show gd (ordB (.int a) (.int b)) (.bool (W.dataLt (.int a) (.int b))) = _
  rw [ord_int, W.dataLt_int]
  rfl
theorem cmp_gt : cmpD .Gt (.int a) (.int b) = okd (.bool (decide (b < a))) := by
  show gd (ordB (.int a) (.int b)) (.bool (W.dataLt (.int b) (.int a))) = _
  rw [ord_int, W.dataLt_int]
  rfl
theorem cmp_le : cmpD .LtE (.int a) (.int b) = okd (.bool (decide (a ≤ b))) := by
  show gd (ordB (.int a) (.int b)) (.bool (!W.dataLt (.int b) (.int a))) = _
  rw [ord_int, W.dataLt_int]
  have : (!decide (b < a)) = decide (a ≤ b) := by
    by_cases h : a ≤ b
    · simp [h]
    · simp [h, Int.not_le.mp h]
  rw [this]
  rfl
theorem cmp_ge : cmpD .GtE (.int a) (.int b) = okd (.bool (decide (b ≤ a))) := by
  show gd (ordB (.int a) (.int b)) (.bool (!W.dataLt (.int a) (.int b))) = _
  rw [ord_int, W.dataLt_int]
  have : (!decide (a < b)) = decide (b ≤ a) := by
    by_cases h : b ≤ a
    · simp [h]
    · simp [h, Int.not_le.mp h]
  rw [this]
  rfl
theorem cmp_eq : cmpD .Eq (.int a) (.int b) = okd (.bool (decide (a = b))) := by
  show gd true (.bool (PyData.eqv (.int a) (.int b))) = _
  rw [eqv_int]
  rfl
theorem cmp_ne : cmpD .NotEq (.int a) (.int b) = okd (.bool (!decide (a = b))) := by
  show gd true (.bool (!PyData.eqv (.int a) (.int b))) = _
  rw [eqv_int]
  rfl
theorem bin_add : binD .Add (.int a) (.int b) = okd (.int (a + b)) := rfl
theorem bin_sub : binD .Sub (.int a) (.int b) = okd (.int (a - b)) := rfl
theorem small_of {i : Int} (h1 : -(2 ^ 64) < i) (h2 : i < 2 ^ 64) : small64 i = true := by
  unfold small64
  rw [decide_eq_true h1, decide_eq_true h2]
  rfl
theorem bin_mulL (h : small64 a = true) : binD .Mult (.int a) (.int b) = okd (.int (a * b)) := by
  show gd (small64 a || small64 b) _ = _
  rw [h]
  rfl
theorem bin_mulR (h : small64 b = true) : binD .Mult (.int a) (.int b) = okd (.int (a * b)) := by
  show gd (small64 a || small64 b) _ = _
  rw [h, Bool.or_true]
  rfl
theorem bin_mod (h : 0 < b) : binD .Mod (.int a) (.int b) = okd (.int (a % b)) := by
  show gd (decide (0 < b)) _ = _
  rw [decide_eq_true h]
  rfl
theorem bin_div (h : 0 < b) (h2 : b < 1073741824) : binD .FloorDiv (.int a) (.int b) = okd (.int (a / b)) := by
  show gd (decide (0 < b) && decide (b < 1073741824)) _ = _
  rw [decide_eq_true h, decide_eq_true h2]
  rfl
theorem blt_divmod (h : 0 < b) (h2 : b < 1073741824) : bltD .divmod [.int a, .int b] = okd (.tuple [.int (a / b), .int (a % b)]) := by
  show gd (decide (0 < b) && decide (b < 1073741824)) _ = _
  rw [decide_eq_true h, decide_eq_true h2]
  rfl
theorem cmp_is (x : D) : cmpD .Is x .none = okd (.bool (isNoneD x)) := by cases x <;> rfl
theorem cmp_isnot (x : D) : cmpD .IsNot x .none = okd (.bool (!isNoneD x)) := by cases x <;> rfl
end
section
variable {C : CallT} {ρ : Rho}
theorem ev_var {i : Nat} : evalE C (.var i) ρ = getV ρ i := rfl
theorem ev_rd {i : Nat} : evalE C (.rd i) ρ = getR ρ i := rfl
theorem ev_con {x : PyData} : evalE C (.con x) ρ = okd x := rfl
theorem ev_tup {es : Exs} : evalE C (.tup es) ρ = (evalDs C es ρ).bind fun xs => gd (lim xs.length) (.tuple xs) := rfl
theorem ev_lst {es : Exs} : evalE C (.lst es) ρ = (evalDs C es ρ).bind fun xs => gd (lim xs.length) (.list xs) := rfl
theorem ev_bin {o : Operator} {a b : Ex} : evalE C (.bin o a b) ρ = ((evalE C a ρ).bind Val.asD).bind fun x => ((evalE C b ρ).bind Val.asD).bind fun y => binD o x y := rfl
theorem ev_neg {a : Ex} : evalE C (.neg a) ρ = ((evalE C a ρ).bind Val.asD).bind negD := rfl
theorem ev_not {a : Ex} : evalE C (.not_ a) ρ = ((evalE C a ρ).bind asB).bind fun b => okd (.bool (!b)) := rfl
theorem ev_and {a b : Ex} : evalE C (.and_ a b) ρ = ((evalE C a ρ).bind asB).bind fun x => if x = true then ((evalE C b ρ).bind asB).bind fun y => okd (.bool y) else okd (.bool false) := rfl
theorem ev_or {a b : Ex} : evalE C (.or_ a b) ρ = ((evalE C a ρ).bind asB).bind fun x => if x = true then okd (.bool true) else ((evalE C b ρ).bind asB).bind fun y => okd (.bool y) := rfl
theorem ev_cmp {o : CmpOp} {a b : Ex} : evalE C (.cmp o a b) ρ = ((evalE C a ρ).bind Val.asD).bind fun x => ((evalE C b ρ).bind Val.asD).bind fun y => cmpD o x y := rfl
theorem ev_chain {o o2 : CmpOp} {a b c : Ex} : evalE C (.chain o o2 a b c) ρ = ((evalE C a ρ).bind Val.asD).bind fun x => ((evalE C b ρ).bind Val.asD).bind fun y => ((cmpD o x y).bind asB).bind fun k =>
    if k = true then ((evalE C c ρ).bind Val.asD).bind fun z => cmpD o2 y z else okd (.bool false) := rfl
theorem ev_ite {c a b : Ex} : evalE C (.ite c a b) ρ = ((evalE C c ρ).bind asB).bind fun k => if k = true then evalE C a ρ else evalE C b ρ := rfl
theorem ev_call {f : Nat} {es : Exs} {ks : List Nat} : evalE C (.call f es ks) ρ = (evalVs C es ρ).bind fun vs => (pickK vs ks).bind fun ws => C f ws := rfl
theorem ev_blt {b : Bf} {es : Exs} : evalE C (.blt b es) ρ = (evalDs C es ρ).bind fun xs => bltD b xs := rfl
theorem ev_isa {a : Ex} {t : Ty} : evalE C (.isa a t) ρ = ((evalE C a ρ).bind Val.asD).bind fun x => okd (.bool (isaD t x)) := rfl
theorem ev_mth {m : Mt} {a : Ex} {es : Exs} : evalE C (.mth m a es) ρ = ((evalE C a ρ).bind Val.asD).bind fun x => (evalDs C es ρ).bind fun xs => mthD m x xs := rfl
theorem ev_idx {a i : Ex} : evalE C (.idx a i) ρ = ((evalE C a ρ).bind Val.asD).bind fun x => ((evalE C i ρ).bind asI).bind fun k => idxD x k := rfl
theorem ev_slc {a : Ex} {lo hi : Exo} : evalE C (.slc a lo hi) ρ = ((evalE C a ρ).bind Val.asD).bind fun x => (evalO C lo ρ).bind fun l => (evalO C hi ρ).bind fun h => slcD x l h := rfl
theorem ev_rev {a : Ex} : evalE C (.rev a) ρ = ((evalE C a ρ).bind Val.asD).bind revD := rfl
theorem ev_mkw {es : Exs} : evalE C (.mkw es) ρ = (evalDs C es ρ).bind mkW := rfl
theorem es_set {i : Nat} {e : Ex} : evalS C (.set i e) ρ = (evalE C e ρ).bind fun x => .ok (ρ.set i (some (.v x)), .nx) := rfl
theorem es_own {i : Nat} {e : Ex} : evalS C (.own i e) ρ = ((evalE C e ρ).bind Val.asD).bind fun x => .ok (ρ.set i (some (.own x)), .nx) := rfl
theorem es_asg {tg : Tg} {e : Ex} : evalS C (.asg tg e) ρ = ((evalE C e ρ).bind Val.asD).bind fun x => (asgD tg x ρ).bind fun ρ2 => .ok (ρ2, .nx) := rfl
theorem es_par {i j : Nat} {a b : Ex} : evalS C (.par i j a b) ρ = (evalE C a ρ).bind fun x => (evalE C b ρ).bind fun y => .ok ((ρ.set i (some (.v x))).set j (some (.v y)), .nx) := rfl
theorem es_ifs {c : Ex} {a b : Sxs} : evalS C (.ifs c a b) ρ = ((evalE C c ρ).bind asB).bind fun k => if k = true then evalSs C a ρ else evalSs C b ρ := rfl
theorem es_ret {e : Ex} : evalS C (.ret e) ρ = (evalE C e ρ).bind fun x => .ok (ρ, .rt x) := rfl
theorem es_retn : evalS C .retn ρ = .ok (ρ, .rt (.d .none)) := rfl
theorem es_pass : evalS C .pass ρ = .ok (ρ, .nx) := rfl
theorem es_cont : evalS C .cont ρ = .ok (ρ, .ct) := rfl
theorem es_exp {e : Ex} : evalS C (.exp e) ρ = (evalE C e ρ).bind fun _ => .ok (ρ, .nx) := rfl
theorem es_frz {is : List Nat} {s : Sx} : evalS C (.frz is s) ρ = evalS C s (frzD ρ is) := rfl
theorem es_loop {tg : Tg} {it : Ix} {b : Sxs} : evalS C (.loop tg it b) ρ = (evalI C it ρ).bind fun xs => Dv.forM (fun x ρ1 => (asgD tg x ρ1).bind fun ρ2 => evalSs C b ρ2) xs ρ := rfl
theorem ss_nil : evalSs C .nil ρ = .ok (ρ, .nx) := rfl
theorem ss_cons {s : Sx} {r : Sxs} : evalSs C (.cons s r) ρ = (evalS C s ρ).bind fun p => match p.2 with
    | .nx => evalSs C r p.1
    | f => .ok (p.1, f) := rfl
/-- one turn of a comprehension -/
def turn (C : CallT) (elt : Ex) (tg : Tg) (fs : Exs) (own : List Nat) (ρ : Rho) (x : D) : M (Option D) := (asgD tg x (wipeD ρ own)).bind fun ρ2 => (evalT C fs ρ2).bind fun b =>
  if b = true then ((evalE C elt ρ2).bind Val.asD).bind fun y => .ok (some y) else .ok none
theorem ev_comp {elt : Ex} {tg : Tg} {it : Ix} {fs : Exs} {own : List Nat} : evalE C (.comp elt tg it fs own) ρ = (evalI C it ρ).bind fun xs => ((compM (turn C elt tg fs own ρ) xs).quiet).bind fun ys => gd (lim xs.length) (.list ys) := rfl
/-- one turn of a loop -/
def lap (C : CallT) (tg : Tg) (b : Sxs) (x : D) (ρ : Rho) : M (Rho × Fl) := (asgD tg x ρ).bind fun ρ2 => evalSs C b ρ2
theorem es_loopL {tg : Tg} {it : Ix} {b : Sxs} : evalS C (.loop tg it b) ρ = (evalI C it ρ).bind fun xs => Dv.forM (lap C tg b) xs ρ := rfl
end
end Dv
end
section
namespace Dv
open PySem PySem.Spec PyProof.Rows L2
/-- the body of the draw -/
def drawSx : Sxs := (.cons (.ifs (.cmp .Gt (.idx (.rd 0) (.con (.int 0))) (.con (.int 0))) (.cons (.asg2 0 (.con (.int 0)) 2 (.blt .divmod (.cons (.idx (.rd 0) (.con (.int 0))) (.cons (.var 1) .nil)))) (.cons (.ret (.var 2)) .nil)) .nil) (.cons (.seti 0 (.con (.int 2)) (.bin .Add (.idx (.rd 0) (.con (.int 2))) (.con (.int 1)))) (.cons (.set 3 (.bin .Mod (.blt .int (.cons (.bin .Add (.bin .Mult (.idx (.rd 0) (.con (.int 1))) (.con (.int 40009))) (.bin .Mult (.con (.int 15013)) (.idx (.rd 0) (.con (.int 2))))) .nil)) (.con (.int 2147483629)))) (.cons (.seti 0 (.con (.int 1)) (.bin .Mod (.blt .int (.cons (.bin .Add (.bin .Mult (.var 3) (.bin .Add (.bin .Mod (.blt .int (.cons (.var 3) .nil)) (.con (.int 5003))) (.con (.int 20011)))) (.idx (.rd 0) (.con (.int 2)))) .nil)) (.con (.int 2147483629)))) (.cons (.ret (.bin .Mod (.blt .int (.cons (.bin .FloorDiv (.idx (.rd 0) (.con (.int 1))) (.con (.int 1031))) .nil)) (.var 1))) .nil)))))
theorem draw_pure (call : CallT) {i j k lim : Int} (hi : 0 ≤ i) (h0 : 0 < lim) (h1 : lim < 1073741824) :
    (evalSs call drawSx [some (.own (.list [.int i, .int j, .int k])), some (.v (.d (.int lim))), none, none]).Sat (fun p => ∃ (r i' j' k' : Int) (a b : Option Slot), 0 ≤ r ∧ r < lim ∧ 0 ≤ i' ∧ p = ([some (.own (.list [.int i', .int j', .int k'])), some (.v (.d (.int lim))), a, b], .rt (.d (.int r)))) (fun _ _ => False) := by
  have s1 : small64 40009 = true := by decide
  have s2 : small64 15013 = true := by decide
  by_cases hp : 0 < i
  · have e : evalSs call drawSx [some (.own (.list [.int i, .int j, .int k])), some (.v (.d (.int lim))), none, none] = .ok ([some (.own (.list [.int (i / lim), .int j, .int k])), some (.v (.d (.int lim))), some (.v (.d (.int (i % lim)))), none], .rt (.d (.int (i % lim)))) := by
      simp [drawSx, evalSs, evalS, evalE, evalDs, M.bind, getR, getV, Val.asD, asI, asB, idxD, seqOf, atI, okd, cmp_gt, hp, blt_divmod _ _ h0 h1, two, setI, ixN]
    rw [e]
    exact ⟨i % lim, i / lim, j, k, _, _, Int.emod_nonneg _ (by omega), Int.emod_lt_of_pos _ h0, Int.ediv_nonneg hi (by omega), rfl⟩
  · have g1 : ∀ x : Int, binD .Mod (.int x) (.int 2147483629) = okd (.int (x % 2147483629)) := fun x => bin_mod _ _ (by decide)
    have g2 : ∀ x : Int, binD .Mod (.int x) (.int 5003) = okd (.int (x % 5003)) := fun x => bin_mod _ _ (by decide)
    have g3 : ∀ x : Int, binD .Mod (.int x) (.int lim) = okd (.int (x % lim)) := fun x => bin_mod _ _ h0
    have g4 : ∀ x : Int, binD .FloorDiv (.int x) (.int 1031) = okd (.int (x / 1031)) := fun x => bin_div _ _ (by decide) (by decide)
    have g5 : ∀ x : Int, binD .Mult (.int x) (.int 40009) = okd (.int (x * 40009)) := fun x => bin_mulR _ _ s1
    have g6 : ∀ x : Int, binD .Mult (.int 15013) (.int x) = okd (.int (15013 * x)) := fun x => bin_mulL _ _ s2
    have g7 : ∀ x y : Int, binD .Mult (.int (x % 2147483629)) (.int y) = okd (.int (x % 2147483629 * y)) := fun x y => bin_mulL _ _ (small_of (by have := Int.emod_nonneg x (show (2147483629 : Int) ≠ 0 by decide); omega) (by have := Int.emod_lt_of_pos x (show (0 : Int) < 2147483629 by decide); omega))
    have e : ∃ j' a b, evalSs call drawSx [some (.own (.list [.int i, .int j, .int k])), some (.v (.d (.int lim))), none, none] = .ok ([some (.own (.list [.int i, .int j', .int (k + 1)])), some (.v (.d (.int lim))), a, b], .rt (.d (.int (j' / 1031 % lim)))) := by
      refine ⟨((j * 40009 + 15013 * (k + 1)) % 2147483629 * ((j * 40009 + 15013 * (k + 1)) % 2147483629 % 5003 + 20011) + (k + 1)) % 2147483629, none, some (.v (.d (.int ((j * 40009 + 15013 * (k + 1)) % 2147483629)))), ?_⟩
      simp [drawSx, evalSs, evalS, evalE, evalDs, M.bind, getR, getV, Val.asD, asI, asB, idxD, seqOf, atI, okd, cmp_gt, hp, setI, ixN, bin_add, g1, g2, g3, g4, g5, g6, g7, bltD]
    obtain ⟨j', a, b, e⟩ := e
    rw [e]
    exact ⟨j' / 1031 % lim, i, j', k + 1, a, b, Int.emod_nonneg _ (by omega), Int.emod_lt_of_pos _ h0, hi, rfl⟩

def drawF : List Val → M Val
  | [.well, .d (.int k)] => .draw k fun r => okd (.int r)
  | _ => .bad
theorem drawF_eq {ds : List Val} {Q : Val → Prop} {E : Nat → List D → Prop} (h : (drawF ds).Sat Q E) : ∃ lim : Int, ds = [.well, .d (.int lim)] ∧ 0 < lim ∧ lim < 1073741824 ∧ ∀ r, 0 ≤ r → r < lim → Q (.d (.int r)) := by
  unfold drawF at h
  split at h
  · exact ⟨_, rfl, h.1.1, h.1.2, h.2⟩
  · exact h.elim
/-- the well seen as a list of three numbers, and back -/
theorem well_open {X : Cx} {pins : List (Addr × Obj)} {σ : L2.St} {H : Hp} {s : Shared} {a : Addr} (I : Inv X pins σ H s) (h : H a = some (WellO a)) : ∃ i j k : Int, 0 ≤ i ∧ Inv X pins σ (upd H a (.lst [.int i, .int j, .int k])) s := by
  obtain ⟨⟨i, j, k, t, u, v, n, hi, e⟩, _, _⟩ := (show ObjOk X.prog X.w H s.heap a (WellO a) from I.hok a _ h)
  exact ⟨i, j, k, hi, I.write (x := a) (e := a) (t' := s.toks) (h' := s.heap) (by rw [h]; exact True.intro) (.inl rfl) (fun b u _ q => q) ⟨_, e⟩ ⟨by rw [sizeLine_eq]; show 3 ≤ 16777216; decide, [.int i t, .int j u, .int k v], n, .cons ⟨_, rfl⟩ (.cons ⟨_, rfl⟩ (.cons ⟨_, rfl⟩ .nil)), e⟩⟩
theorem well_close {X : Cx} {pins : List (Addr × Obj)} {σ : L2.St} {H : Hp} {s : Shared} {a : Addr} {i j k : Int} (I : Inv X pins σ H s) (hi : 0 ≤ i) (h : H a = some (.lst [.int i, .int j, .int k])) : Inv X pins σ (upd H a (WellO a)) s := by
  obtain ⟨_, its, n, r, e⟩ := (show ObjOk X.prog X.w H s.heap a (.lst [.int i, .int j, .int k]) from I.hok a _ h)
  refine I.write (x := a) (e := a) (t' := s.toks) (h' := s.heap) (by rw [h]; exact True.intro) (.inl rfl) (fun b u _ q => q) ⟨_, e⟩ ?_
  cases r with
  | cons r1 r =>
    cases r with
    | cons r2 r =>
      cases r with
      | cons r3 r =>
        cases r
        obtain ⟨t, rfl⟩ := r1
        obtain ⟨u, rfl⟩ := r2
        obtain ⟨v, rfl⟩ := r3
        exact ⟨⟨i, j, k, t, u, v, n, hi, e⟩, ⟨_, e⟩, fun h1 h2 ⟨i, j, k, t, u, v, n, hi, e⟩ hk => ⟨i, j, k, t, u, v, n, hi, hk _ e⟩⟩
theorem fnG_draw {P : Program} {w : World} {K : PySem.W.Frag} {mg : Str → Option Value} {base : Heap} {n k : Nat} {call : CallT} {tc : TC} {x qual : Str} {params : Arguments} {body : List Stmt} {dvs : List V} {kws : List (Str × V)} {f : Addr} {fd : FuncData} {ps : List Str}
    (F : FunD K x qual params body tc.sc dvs kws f fd) (Sc : FnScope tc.N ps tc.sc) (Su : Sur P w K mg base tc n call) (dbg : ∀ x ∈ tc.N, (x == ("__debug__" : Str)) = false ∧ (x == ("__classdict__" : Str)) = false) (tr : trSs k tc body = some drawSx) (hps : ps.length = 2) (hN : tc.N.length = 4) :
    FnG P w K mg base (n + 1) f fd ps drawF := by
  obtain ⟨oc, od, dV, kV, doc, pm, an, cdv, ct, osl, rfl, hlk, hcd, _, _⟩ := F.ex
  intro Ar outer s H args us vs ds A Q hr hg e0 hb r hl ha hd hs
  have inK : K.In s.heap := e0.mod.kin.keeps fun b o e => (e0.bs b o e).1
  have nolim : s.heap.NoLimit := e0.mod.nolimit.keeps fun b o e => (e0.bs b o e).1
  have kinds : ∀ y ∈ ps.zip us, tc.sc.names.lookup y.1 = some .local ∨ (tc.sc.names.lookup y.1 = some .cell ∧ ((cellsFrom (s.heap.objs.size + 1) tc.sc.names []).lookup y.1).isSome = true) := by
    intro y hy
    obtain ⟨y1, y2⟩ := y
    have hp := (List.of_mem_zip hy).1
    exact (Sc.par y1 hp).imp id fun q => ⟨q, PySem.W.cellsFrom_some _ _ _ (.inl q)⟩
  refine codeAny_call_function hr.depth (inK _ _ hlk) rfl Sc.co Sc.gen rfl (PySem.W.codeRec_of inK hcd) (hb _ _ _ _ ?_)
  refine wpAny_newFunctionEnv_cells Sc.kind kinds fun fenv hfe s1 ic => ?_
  subst hfe
  refine ⟨nolim.keeps ic.toInCall.keep, codeAny_func ?_⟩
  have I : Inv (cxOf CX0 P w K mg base tc.N qual tc.sc f cdv Ar outer s H fun _ _ _ => False) [] (start tc.N vs) H s1 := inv_start Sc hr.hd e0 hl r ic
  have sx1 : SX (cxOf CX0 P w K mg base tc.N qual tc.sc f cdv Ar outer s H fun _ _ _ => False) tc n call :=
    ⟨rfl, Sc.nd, dbg, rfl, rfl, hr.deeper _, hg, PassesOwn.leaving, Su.free, Su.cons, Su.fn⟩
  have ss : SS (cxOf CX0 P w K mg base tc.N qual tc.sc f cdv Ar outer s H fun _ _ _ => False) tc n call := by
    refine ⟨sx1, fun x i h => ?_, Sc.kind⟩
    obtain ⟨h1, h2⟩ := slotL_of h
    unfold slotOf at h1
    split at h1
    · rename_i e
      exact ⟨.inl e, .inl rfl⟩
    · rename_i e
      exact ⟨.inr e, .inl rfl⟩
    · rename_i e
      exact absurd e h2
    · cases h1
  obtain ⟨lim, rfl, h0, h1, hQ⟩ := drawF_eq hs
  match vs, hd with
  | [v0, v1], hd =>
    obtain ⟨⟨a, rfl, hw⟩, hlim, _⟩ := hd
    have e1 : v1 = .int lim := by
      have z : DA A K H v1 (.int lim) := hlim
      cases z
      rfl
    subst e1
    obtain ⟨i, j, kk, hi, I1⟩ := well_open I hw
    let H0 : Hp := fun b => if b = a then none else H b
    let A1 : Addr → Prop := fun b => A b ∧ b ≠ a
    have H0a : H0 a = none := if_pos rfl
    have H0n : ∀ b, b ≠ a → H0 b = H b := fun b hb => if_neg hb
    have ok1 : AOk A1 (upd H a (.lst [.int i, .int j, .int kk])) := fun b hb => by
      obtain ⟨o, e⟩ := ha b hb.1
      exact ⟨o, by rw [upd_ne hb.2]; exact e⟩
    have g : Grow A1 H0 A1 (upd H a (.lst [.int i, .int j, .int kk])) := ⟨fun b o e => by
      by_cases hb : b = a
      · subst hb
        rw [H0a] at e
        cases e
      · rw [H0n b hb] at e
        rw [upd_ne hb]
        exact e, fun _ h => h, fun _ h => .inl h, ok1⟩
    have est : start tc.N [V.ref a, .int lim] = [some (.ref a), some (.int lim), none, none] := by
      unfold L2.start
      rw [hN]
      rfl
    have env : EnvR (C0 K H0) A1 (upd H a (.lst [.int i, .int j, .int kk])) (start tc.N [V.ref a, .int lim]) [some (.own (.list [.int i, .int j, .int kk])), some (.v (.d (.int lim))), none, none] := by
      rw [est]
      refine ⟨ok1, rfl, fun q sl e => ?_, fun p q x y b hpq e1 e2 es => ?_⟩
      · match q, e with
        | 0, e =>
          cases e
          exact ⟨_, rfl, a, _, _, rfl, rfl, upd_same, .cons (.int _) (.cons (.int _) (.cons (.int _) .nil)), fun z => z.2 rfl, H0a⟩
        | 1, e =>
          cases e
          exact ⟨_, rfl, DA.int _⟩
        | 2, e => cases e
        | 3, e => cases e
        | q + 4, e => cases e
      · have z : ∀ (q : Nat) (x : D), ([some (Slot.own (.list [.int i, .int j, .int kk])), some (.v (.d (.int lim))), none, none] : Rho)[q]? = some (some (.own x)) → q = 0 := fun q x e => by
          match q, e with
          | 0, _ => rfl
          | 1, e => cases e
          | 2, e => cases e
          | 3, e => cases e
          | q + 4, e => cases e
        exact absurd ((z p x e1).trans (z q y e2).symm) hpq
    have run := (st_all (W := fun i => i ≠ 0) (A0 := A1) (H0 := H0) ss k).Ss tr fun i hi => by
      intro z
      subst z
      revert hi
      decide
    have start_ok : tS (fun i => i ≠ 0) A1 K H0 (evalSs call drawSx) { nx := fun _ _ => False, rt := fun v H' => ∃ i' j' k' r : Int, 0 ≤ i' ∧ 0 ≤ r ∧ r < lim ∧ v = .int r ∧ H' a = some (.lst [.int i', .int j', .int k']) ∧ ∀ b o, b ≠ a → H b = some o → H' b = some o } (start tc.N [V.ref a, .int lim]) (upd H a (.lst [.int i, .int j, .int kk])) := by
      refine ⟨A1, _, env, g, (draw_pure call hi h0 h1).mono (fun p q A' σ' H' P => ?_) fun _ _ z => z⟩
      obtain ⟨rr, i', j', k', sa, sb, hr0, hr1, hi', rfl⟩ := q
      intro u ru
      have eu : u = .int rr := by
        have z : DA A' K H' u (.int rr) := ru
        cases z
        rfl
      obtain ⟨v, ev, b, xs, es, rfl, e2, hb, hds, _, hb0⟩ := P.env.at_ 0 _ rfl
      cases e2
      have eb : b = a := by
        have z := P.stay 0 (fun z => z rfl)
        rw [ev, est] at z
        cases z
        rfl
      subst eb
      refine ⟨i', j', k', rr, hi', hr0, hr1, eu, ?_, fun c o hc e => P.grow.same _ _ (by rw [H0n c hc]; exact e)⟩
      rw [hb]
      have := hds.ints (ns := [i', j', k']) rfl
      rw [this]
      rfl
    refine wpAny_mono (run.run [] s1 _ _ _ I1 start_ok) (fun fl s' hq => ?_) fun e s' hq => hq
    cases fl with
    | ret u =>
      obtain ⟨v, σ', H', J, rv, i', j', k', r, hi', hr0, hr1, rfl, ea, hk⟩ := hq
      have J2 := well_close J hi' ea
      refine ⟨.int r, _, J2.os, J2.bare, J2.base, J2.hok, rv, hQ r hr0 hr1 A _ _ ⟨fun b o e => ?_, fun _ h => h, fun _ h => .inl h, fun b hb => ?_⟩ (DA.int r)⟩
      · by_cases hba : b = a
        · subst hba
          rw [hw] at e
          cases e
          exact upd_same
        · rw [upd_ne hba]
          exact hk b o hba e
      · obtain ⟨o, e⟩ := ha b hb
        by_cases hba : b = a
        · subst hba
          exact ⟨_, upd_same⟩
        · exact ⟨o, by rw [upd_ne hba]; exact hk b o hba e⟩
    | next => exact (hq.elim fun _ z => z.elim fun _ z => z.2).elim
    | brk => exact (hq.elim fun _ z => z.elim fun _ z => z.2).elim
    | cont => exact (hq.elim fun _ z => z.elim fun _ z => z.2).elim
end Dv
end
section
namespace Dv
open PySem PySem.Spec PyProof.Rows L2

/-- the ints of a script -/
def intsD (ns : List Int) : D := .list (ns.map .int)
theorem das_ints {A : Addr → Prop} {K : PySem.W.Frag} {H : Hp} : ∀ ns : List Int, DAs A K H (ns.map V.int) (ns.map PyData.int)
  | [] => .nil
  | _ :: r => .cons (.int _) (das_ints r)
theorem callG {P : Program} {w : World} {K : PySem.W.Frag} {mg mb : Str → Option Value} {k : Nat} {fa a : Addr} {fd : FuncData} {x : Str} {G : List Val → M Val} {st : Shared} {vs : List Value} {ns : List Int}
    (kIn : K.In st.heap) (hMod : st.heap.Ns mainGlobals mg) (hBlt : st.heap.Ns builtinsNs mb) (hBoot : ∀ x : Str, x ≠ "__name__" → mb x = bootBuiltins x) (hLim : st.heap.NoLimit) (hGen : st.gens = #[])
    (hObj : st.heap.get? a = some { cls := .type "list", data := .seq vs.toArray }) (hInts : IntsAre vs ns) (hLen : ns.length ≤ sizeLine) (room : Room k callerA)
    (F : ∀ base : Heap, K.In base → base.Ns mainGlobals mg → FnG P w K mg base k fa fd [x] G) (hBind : ∀ (s : Shared) (u : Value), BindsTo s fd ⟨[u], []⟩ [(x, u)])
    (law : (G [.d (intsD ns)]).Sat (fun v => v = .d (.bool true)) (fun _ _ => False)) :
    codeAny (model P w) callerA (.call (.ref fa) ⟨[.ref a], []⟩) (fun r s' => r = .ok (.ret (.bool true)) ∧ OldK st.heap s'.heap ∧ s'.os = st.os ∧ AllBare s'.gens) st := by
  have rel := vals_ints hInts
  have hl := hInts.length
  -- H: the script alone, or nothing
  have go : ∀ (H : Hp) (A : Addr → Prop), AOk A H → Only H → LstAt A K H a (ns.map V.int) → HOk P w H st.heap → (∀ b, H b ≠ none → b = a ∧ K.lookup a = none) →
      codeAny (model P w) callerA (.call (.ref fa) ⟨[.ref a], []⟩) (fun r s' => r = .ok (.ret (.bool true)) ∧ OldK st.heap s'.heap ∧ s'.os = st.os ∧ AllBare s'.gens) st := by
    intro H A hA only hL hH own
    have inBase : ∀ {b : Addr} {o : Obj}, st.heap.get? b = some o → H b = none → (hidT st.heap H).get? b = some o := fun e z => hidT_get e z
    have notDict : ∀ {b : Addr} {o : Obj} {es : Array DictEntry} {ep : Nat}, st.heap.get? b = some o → o.data = .dict es ep → H b = none := by
      intro b o es ep e d
      cases q : H b with
      | none => rfl
      | some u =>
        obtain ⟨rfl, _⟩ := own b (by rw [q]; exact fun z => nomatch z)
        rw [hObj] at e
        cases e
        cases d
    have ns_of : ∀ {b : Addr} {m : Str → Option Value}, st.heap.Ns b m → (hidT st.heap H).Ns b m := by
      intro b m h
      obtain ⟨o, es, ep, e, d, r⟩ := h
      exact ⟨o, es, ep, inBase e (notDict e d), d, r⟩
    have kBase : K.In (hidT st.heap H) := by
      intro b o e
      refine inBase (kIn b o e) ?_
      cases q : H b with
      | none => rfl
      | some u =>
        obtain ⟨rfl, z⟩ := own b (by rw [q]; exact fun z => nomatch z)
        rw [z] at e
        cases e
    obtain ⟨mc, lim1, lim2⟩ := hLim
    have md : Mod K mg (hidT st.heap H) := ⟨kBase, ns_of hMod, ⟨mb, ns_of hBlt, hBoot⟩, mc, ns_of lim1, lim2⟩
    have e0 : Env0 P w K mg (hidT st.heap H) callerA [] st H := ⟨rfl, md, fun b o e => of_hidT e, Nat.le_of_eq (hidT_size _ _), trivial, fun b hb => (nomatch hb), hH, .of_eq hGen⟩
    have hR : Reps A K H [V.ref a] [.d (intsD ns)] := ⟨DA.lst hL (das_ints ns), True.intro⟩
    have hS : (G [.d (intsD ns)]).Sat (Wd K A H fun v _ => v = .bl true) (fun _ _ => False) := law.mono (fun v e A' u H' g r => by
      subst e
      have z : DA A' K H' u (.bool true) := r
      cases z
      rfl) fun _ _ z => z
    refine codeAny_mono (F _ kBase (ns_of hMod) callerA [] st H ⟨[.ref a], []⟩ [.ref a] [.ref a] _ A _ room rfl e0 (hBind st (.ref a)) (.cons rfl .nil) rfl hA hR hS) fun r s' h => ?_
    cases r with
    | error e => exact (show False from h).elim
    | ok fl =>
      cases fl with
      | ret u =>
        obtain ⟨v, H', hos, hbare, hun, hH', rv, hv⟩ := h
        have hv : v = .bl true := hv
        subst hv
        have hu : u = Value.bool true := rv
        subst hu
        refine ⟨rfl, OldK.of_keep fun b o e => ?_, hos, hbare⟩
        cases q : H b with
        | none => exact hun.keep b o e q (fun z => (nomatch z)) (fun z => (nomatch z))
        | some u =>
          rcases only b with z | ⟨ob, xs, z⟩
          · rw [q] at z
            cases z
          · obtain ⟨y1, _⟩ := hH b _ z
            obtain ⟨y2, _⟩ := hH' b _ (hun.frzs b ob _ z)
            rw [e] at y1
            cases y1
            exact y2
      | next => exact (show False from h).elim
      | brk => exact (show False from h).elim
      | cont => exact (show False from h).elim
  cases hk : K.lookup a with
  | some o =>
    have e := kIn a o hk
    rw [hObj] at e
    cases e
    exact go (fun _ => none) (fun _ => False) (fun _ z => z.elim) (fun _ => .inl rfl) (.inr ⟨vs.toArray, 0, hk, by rw [List.size_toArray, hl]; exact hLen, by simpa using rel⟩) (fun b u z => nomatch (show (none : Option HO) = some u from z)) fun b z => absurd rfl z
  | none =>
    let hO : HO := .frz { cls := .type "list", data := .seq vs.toArray } (.lst (ns.map V.int))
    have at_ : (fun b => if b = a then some hO else none : Hp) a = some hO := if_pos rfl
    refine go (fun b => if b = a then some hO else none) (fun b => b = a) (fun b hb => ⟨_, if_pos hb⟩) (fun b => ?_) (.inl ⟨rfl, .inr ⟨_, at_⟩⟩) (fun b u z => ?_) fun b z => ?_
    · by_cases hb : b = a
      · exact .inr ⟨_, _, if_pos hb⟩
      · exact .inl (if_neg hb)
    · have z : (if b = a then some hO else none) = some u := z
      by_cases hb : b = a
      · rw [if_pos hb] at z
        cases z
        subst hb
        exact ⟨hObj, by rw [List.length_map]; exact hLen, vs, _, rel, hObj⟩
      · rw [if_neg hb] at z
        cases z
    · by_cases hb : b = a
      · exact ⟨hb, hk⟩
      · exact absurd (if_neg hb) z
/-- a law, over the head's facts -/
theorem walkG {l : PySem.W.OpenLaw} {n k : Nat} {q : Program} {loose : List Str} {XP : (Str → Option Value) → Heap → Prop} {YP : World → Heap → Prop} {d : DefRec} {x : Str}
    (hm : l.most = some n) (hn : n ≤ sizeLine) (hd : d.params.defaults = []) (room : Room k callerA)
    (F : ∀ (w : World) (mg : Str → Option Value) (fa : Addr) (h : Heap), YP w h → h.Ns mainGlobals mg → mg d.name = some (.ref fa) →
      ∃ (K : PySem.W.Frag) (fd : FuncData) (G : List Val → M Val), K.In h ∧ (∀ (s : Shared) (u : Value), BindsTo s fd ⟨[u], []⟩ [(x, u)]) ∧
        (∀ ns : List Int, ns.length ≤ n → (G [.d (intsD ns)]).Sat (fun v => v = .d (.bool true)) (fun _ _ => False)) ∧ ∀ base : Heap, K.In base → base.Ns mainGlobals mg → FnG l.prog w K mg base k fa fd [x] G) :
    PySem.W.WalkO q loose XP YP l.row.toRowW d [] (fun f vs => PySem.call f vs) := by
  refine Att.attach_call hm hd fun w s₀ st mg mb fa o pm cd doc a vs ns Gr Y ho hdt hcd hmg hobj hints hlen hgen => ?_
  obtain ⟨K, fd, G, kIn, hb, hl, hF⟩ := F w mg fa _ Y Gr.T.g hmg
  exact callG kIn Gr.T.g Gr.T.b Gr.T.builtins Gr.T.nolimit hgen hobj hints (Nat.le_trans hlen hn) room hF hb (hl ns hlen)
end Dv
end
section
namespace Dv
open PySem PySem.Spec PyProof.Rows L2

/-- one def of the text: where it stands, its slots, what it is taken for -/
structure RowD where
  st : Stmt
  name : Str
  id : Nat
  ps : List Str
  N : List Str
  mv : List Nat
  wl : Bool
  den : Den
def fnsOf (rs : List RowD) : List (Str × Nat × List Str) := rs.map fun r => (r.name, r.id, r.ps)
def tcOf (fns : List (Str × Nat × List Str)) (cons : List (Str × PyData)) (r : RowD) : TC := ⟨r.N, defScope r.st, fns, cons, r.mv, r.wl⟩
def defOf (r : RowD) : He.DefD := ⟨(r.name, none), r.name, r.name, defArgs r.st, defBody r.st, defScope r.st, [], []⟩
def tabOf (rs : List RowD) : Tab := fun k => (rs.find? fun r => Nat.beq r.id k).map RowD.den
def bNames : List Str := ["len", "tuple", "list", "sorted", "min", "max", "all", "any", "sum", "repr", "abs", "divmod", "isinstance", "set", "range", "int", "bool", "str"]
def consFa : Str × PyData → He.Fa
  | (x, .int i) => .int x i
  | (x, .str z) => .str x z
  | (x, _) => .glo x
def flatD : PyData → Bool
  | .int _ => true
  | .str _ => true
  | _ => false
def factsOf (rs : List RowD) (cons : List (Str × PyData)) : List He.Fa := rs.map (fun r => .glo r.name) ++ (bNames.map He.Fa.free ++ cons.map consFa)
def plainArgs (a : Arguments) (ps : List Str) : Bool := a.posonlyargs.isEmpty && (decide (a.args.map (·.arg) = ps) && (a.vararg.isNone && (a.kwonlyargs.isEmpty && a.kwarg.isNone)))
/-- a look at a def's names -/
def scopeB (N ps : List Str) (sc : Scope) : Bool :=
  (match sc.kind with | .function => true | _ => false) && (!sc.isCoroutine && (!sc.isGenerator && (decide N.Nodup && (decide (N.take ps.length = ps) &&
    (ps.all (fun x => decide (sc.names.lookup x = some .local) || decide (sc.names.lookup x = some .cell)) && sc.names.all fun y => !decide (y.2 = .free))))))
theorem scopeB_ok {N ps : List Str} {sc : Scope} (h : scopeB N ps sc = true) : FnScope N ps sc := by
  obtain ⟨h1, h⟩ := ba h
  obtain ⟨h2, h⟩ := ba h
  obtain ⟨h3, h⟩ := ba h
  obtain ⟨h4, h⟩ := ba h
  obtain ⟨h5, h⟩ := ba h
  obtain ⟨h6, h7⟩ := ba h
  refine ⟨?_, by simpa using h2, by simpa using h3, of_decide_eq_true h4, of_decide_eq_true h5, fun x hx => ?_, fun y hy => ?_⟩
  · split at h1
    · assumption
    · cases h1
  · have z := List.all_eq_true.mp h6 x hx
    simpa using z
  · have z := List.all_eq_true.mp h7 y hy
    simpa using z
def lookB (r : RowD) : Bool := scopeB r.N r.ps (defScope r.st) && (plainArgs (defArgs r.st) r.ps && ((r.N.all fun x => !(x == ("__debug__" : Str)) && !(x == ("__classdict__" : Str))) && !(r.name == ("__debug__" : Str))))
def RowOk (fns : List (Str × Nat × List Str)) (cons : List (Str × PyData)) (r : RowD) : Prop := lookB r = true ∧ (match r.den with
  | .fn F => F.np = r.ps.length ∧ F.ns = r.N.length ∧ trSs 100 (tcOf fns cons r) (defBody r.st) = some F.body
  | .draw => r.ps.length = 2 ∧ r.N.length = 4 ∧ trSs 100 (tcOf fns cons r) (defBody r.st) = some drawSx
  | .well => False)
section
variable {P : Program} {w : World} {K : PySem.W.Frag} {mg : Str → Option Value} {base : Heap} {rs : List RowD} {cons : List (Str × PyData)}
theorem find_id : ∀ {rs : List RowD} {r : RowD}, r ∈ rs → (rs.map RowD.id).Nodup → (rs.find? fun q => Nat.beq q.id r.id) = some r
  | [], _, h, _ => nomatch h
  | q :: rs, r, h, nd => by
    rw [List.map_cons, List.nodup_cons] at nd
    rcases List.mem_cons.mp h with rfl | h
    · rw [List.find?_cons]
      have e : Nat.beq r.id r.id = true := Nat.beq_refl _
      rw [e]
    · have hne : q.id ≠ r.id := fun z => nd.1 (z ▸ List.mem_map_of_mem h)
      rw [List.find?_cons]
      have e : Nat.beq q.id r.id = false := by
        cases e : Nat.beq q.id r.id with
        | false => rfl
        | true => exact absurd (Nat.eq_of_beq_eq_true e) hne
      rw [e]
      exact find_id h nd.2
theorem tab_at {r : RowD} (h : r ∈ rs) (nd : (rs.map RowD.id).Nodup) : tabOf rs r.id = some r.den := by
  unfold tabOf
  rw [find_id h nd]
  rfl
theorem lookup_row : ∀ {rs : List RowD} {x : Str} {k : Nat} {ps : List Str}, (fnsOf rs).lookup x = some (k, ps) → ∃ r ∈ rs, r.name = x ∧ r.id = k ∧ r.ps = ps
  | [], _, _, _, h => nomatch h
  | r :: rs, x, k, ps, h => by
    have h : (match x == r.name with | true => some (r.id, r.ps) | false => (fnsOf rs).lookup x) = some (k, ps) := h
    cases e : x == r.name with
    | true =>
      rw [e] at h
      cases h
      exact ⟨r, List.mem_cons_self, (eq_of_beq e).symm, rfl, rfl⟩
    | false =>
      rw [e] at h
      obtain ⟨q, hq, z⟩ := lookup_row (rs := rs) h
      exact ⟨q, List.mem_cons_of_mem _ hq, z⟩
theorem lookup_mem {α : Type} : ∀ {l : List (Str × α)} {x : Str} {d : α}, l.lookup x = some d → (x, d) ∈ l
  | [], _, _, h => nomatch h
  | (y, e) :: l, x, d, h => by
    have h : (match x == y with | true => some e | false => l.lookup x) = some d := h
    cases q : x == y with
    | true =>
      rw [q] at h
      cases h
      rw [eq_of_beq q]
      exact List.mem_cons_self
    | false =>
      rw [q] at h
      exact List.mem_cons_of_mem _ (lookup_mem h)
theorem fact_mem {fa : List He.Fa} {fn : List He.DefD} (c : He.SaysD fa fn K) {f : He.Fa} (h : f ∈ fa) : f.ok K = true := by
  obtain ⟨i, e⟩ := List.mem_iff_getElem?.mp h
  exact c.fact i e
theorem def_mem {fa : List He.Fa} {fn : List He.DefD} (c : He.SaysD fa fn K) {d : He.DefD} (h : d ∈ fn) : ∃ fd, FunD K d.name d.qual d.params d.body d.scope (d.dvs K) (d.kws K) (He.fAd K d.at_) fd := by
  obtain ⟨i, e⟩ := List.mem_iff_getElem?.mp h
  exact c.def_ i e
/-- a constant that is a number or a text -/
theorem cons_flat (X : K.In base) (Gm : base.Ns mainGlobals mg) (c : He.SaysD (factsOf rs cons) (rs.map defOf) K) (hc : (cons.all fun p => flatD p.2 && !(p.1 == ("__debug__" : Str))) = true) {x : Str} {d : PyData} (h : cons.lookup x = some d) :
    ∃ u v, (x == ("__debug__" : Str)) = false ∧ mg x = some u ∧ RelV v u ∧ ∀ A H, DA A K H v d := by
  have hm := lookup_mem h
  obtain ⟨h1, h2⟩ := ba (List.all_eq_true.mp hc _ hm)
  have hd : (x == ("__debug__" : Str)) = false := by simpa using h2
  have hf := fact_mem c (List.mem_append_right _ (List.mem_append_right _ (List.mem_map_of_mem (f := consFa) hm)))
  cases d with
  | int i =>
    obtain ⟨t, e⟩ := He.int_ok X Gm hf
    exact ⟨_, .int i, hd, e, ⟨t, rfl⟩, fun A H => .int i⟩
  | str z =>
    obtain ⟨t, e⟩ := He.str_ok X Gm hf
    exact ⟨_, .str z, hd, e, ⟨t, rfl⟩, fun A H => .str z⟩
  | _ => cases h1
def ConsOk (K : PySem.W.Frag) (mg : Str → Option Value) (cons : List (Str × PyData)) : Prop := ∀ x d, cons.lookup x = some d → ∃ u v, (x == ("__debug__" : Str)) = false ∧ mg x = some u ∧ RelV v u ∧ ∀ A H, DA A K H v d
theorem fun_at {x qual : Str} {params : Arguments} {body : List Stmt} {scope : Scope} {dvs : List V} {kws : List (Str × V)} {f : Addr} {fd : FuncData} (F : FunD K x qual params body scope dvs kws f fd) : ∃ oc od osl, K.lookup f = some ⟨oc, od, .func fd, osl⟩ := by
  obtain ⟨oc, od, dV, kV, doc, pm, an, cdv, ct, osl, rfl, h, _⟩ := F.ex
  exact ⟨oc, od, osl, h⟩
theorem text_fn (X : K.In base) (Gm : base.Ns mainGlobals mg) (c : He.SaysD (factsOf rs cons) (rs.map defOf) K) (ok : ∀ r ∈ rs, RowOk (fnsOf rs) cons r) (nd : (rs.map RowD.id).Nodup) (hc : ConsOk K mg cons) :
    ∀ (n : Nat) (r : RowD), r ∈ rs → ∃ fd, (∃ oc od osl, K.lookup (He.ga K r.name) = some ⟨oc, od, .func fd, osl⟩) ∧ mg r.name = some (.ref (He.ga K r.name)) ∧ PySem.W.keepIn K (.ref (He.ga K r.name)) = true ∧ PlainPs fd r.ps ∧ (r.name == ("__debug__" : Str)) = false ∧ FnG P w K mg base n (He.ga K r.name) fd r.ps (callN (tabOf rs) n r.id) := by
  intro n
  induction n with
  | zero =>
    intro r hr
    obtain ⟨fd, F⟩ := def_mem c (List.mem_map_of_mem (f := defOf) hr)
    obtain ⟨hl, _⟩ := ok r hr
    obtain ⟨_, hl⟩ := ba hl
    obtain ⟨hp, hl⟩ := ba hl
    obtain ⟨_, hdb⟩ := ba hl
    refine ⟨fd, fun_at F, He.glo_ok X Gm (fact_mem c (List.mem_append_left _ (List.mem_map_of_mem (f := fun r => He.Fa.glo r.name) hr))), F.kp, ?_, by simpa using hdb, fun _ _ _ _ _ _ _ _ _ _ _ _ _ _ _ _ _ _ z => z.elim⟩
    obtain ⟨oc, od, dV, kV, doc, pm, an, cdv, ct, osl, rfl, _, _, hD, _⟩ := F.ex
    obtain ⟨p1, p⟩ := ba hp
    obtain ⟨p2, p⟩ := ba p
    obtain ⟨p3, p⟩ := ba p
    obtain ⟨p4, p5⟩ := ba p
    refine ⟨List.isEmpty_iff.mp p1, of_decide_eq_true p2, Option.isNone_iff_eq_none.mp p3, List.isEmpty_iff.mp p4, Option.isNone_iff_eq_none.mp p5, ?_⟩
    rcases hD with ⟨_, e⟩ | ⟨e, _⟩
    · exact e
    · exact absurd rfl e
  | succ n ih =>
    intro r hr
    have Su : ∀ tc : TC, tc.fns = fnsOf rs → tc.cons = cons → Sur P w K mg base tc n (callN (tabOf rs) n) := fun tc e1 e2 => by
      refine ⟨fun x hx _ => ?_, by rw [e2]; exact hc, fun x k ps h => ?_⟩
      · exact He.free_ok X Gm (fact_mem c (List.mem_append_right _ (List.mem_append_left _ (List.mem_map_of_mem (f := He.Fa.free) hx))))
      · rw [e1] at h
        obtain ⟨q, hq, rfl, rfl, rfl⟩ := lookup_row h
        obtain ⟨fd, _, h1, h2, h3, h4, h5⟩ := ih q hq
        exact ⟨_, fd, h4, h1, h2, h3, h5⟩
    obtain ⟨_, _, g1, g2, _, g4, _⟩ := ih r hr
    obtain ⟨fd, F⟩ := def_mem c (List.mem_map_of_mem (f := defOf) hr)
    obtain ⟨hl, hden⟩ := ok r hr
    obtain ⟨hs, hl⟩ := ba hl
    obtain ⟨hp, hl⟩ := ba hl
    obtain ⟨hN, _⟩ := ba hl
    have dbg : ∀ x ∈ r.N, (x == ("__debug__" : Str)) = false ∧ (x == ("__classdict__" : Str)) = false := fun x hx => by
      obtain ⟨z1, z2⟩ := ba (List.all_eq_true.mp hN x hx)
      exact ⟨by simpa using z1, by simpa using z2⟩
    have Pl : PlainPs fd r.ps := by
      obtain ⟨oc, od, dV, kV, doc, pm, an, cdv, ct, osl, rfl, _, _, hD, _⟩ := F.ex
      obtain ⟨p1, p⟩ := ba hp
      obtain ⟨p2, p⟩ := ba p
      obtain ⟨p3, p⟩ := ba p
      obtain ⟨p4, p5⟩ := ba p
      refine ⟨List.isEmpty_iff.mp p1, of_decide_eq_true p2, Option.isNone_iff_eq_none.mp p3, List.isEmpty_iff.mp p4, Option.isNone_iff_eq_none.mp p5, ?_⟩
      rcases hD with ⟨_, e⟩ | ⟨e, _⟩
      · exact e
      · exact absurd rfl e
    have et := tab_at hr nd
    refine ⟨fd, fun_at F, g1, g2, Pl, g4, ?_⟩
    cases hd : r.den with
    | fn F' =>
      rw [hd] at hden et
      obtain ⟨d1, d2, d3⟩ := hden
      have z := fnG_of (tc := tcOf (fnsOf rs) cons r) F (scopeB_ok hs) (Su (tcOf (fnsOf rs) cons r) rfl rfl) dbg d3 d1 d2
      have e : callN (tabOf rs) (n + 1) r.id = runF (callN (tabOf rs) n) F'.np F'.ns F'.body := by
        funext vs
        show (match tabOf rs r.id with | some (.fn F) => _ | some .draw => _ | some .well => _ | none => _) = _
        rw [et]
        rfl
      rw [e]
      exact z
    | draw =>
      rw [hd] at hden et
      obtain ⟨d1, d2, d3⟩ := hden
      have z := fnG_draw (tc := tcOf (fnsOf rs) cons r) F (scopeB_ok hs) (Su (tcOf (fnsOf rs) cons r) rfl rfl) dbg d3 d1 d2
      have e : callN (tabOf rs) (n + 1) r.id = drawF := by
        funext vs
        show (match tabOf rs r.id with | some (.fn F) => _ | some .draw => _ | some .well => _ | none => _) = _
        rw [et]
        rfl
      rw [e]
      exact z
    | well =>
      rw [hd] at hden
      exact hden.elim
/-- the law's pure run -/
structure LawOk (T : Tab) (k id n : Nat) : Prop where
  run : ∀ ns : List Int, ns.length ≤ n → (callN T k id [.d (intsD ns)]).Sat (fun v => v = .d (.bool true)) (fun _ _ => False)
/-- the law's call, by its pure run -/
theorem text_law {h : Heap} {f : Addr} {x : Str} {n k : Nat} (KX : K.In h) (Gm : h.Ns mainGlobals mg) (c : He.SaysD (factsOf rs cons) (rs.map defOf) K) (ok : ∀ r ∈ rs, RowOk (fnsOf rs) cons r) (nd : (rs.map RowD.id).Nodup) (hc : ConsOk K mg cons)
    {r : RowD} (hr : r ∈ rs) (hps : r.ps = [x]) (hmg : mg r.name = some (.ref f)) (law : LawOk (tabOf rs) k r.id n) :
    ∃ (K : PySem.W.Frag) (fd : FuncData) (G : List Val → M Val), K.In h ∧ (∀ (s : Shared) (u : Value), BindsTo s fd ⟨[u], []⟩ [(x, u)]) ∧
        (∀ ns : List Int, ns.length ≤ n → (G [.d (intsD ns)]).Sat (fun v => v = .d (.bool true)) (fun _ _ => False)) ∧ ∀ base : Heap, K.In base → base.Ns mainGlobals mg → FnG P w K mg base k f fd [x] G := by
  obtain ⟨fd, ⟨oc, od, osl, el⟩, g1, _, Pl, _, _⟩ := text_fn (P := P) (w := w) KX Gm c ok nd hc k r hr
  rw [hmg] at g1
  cases g1
  rw [hps] at Pl
  have pm : PermOk [x] 1 [] [0] := perm_ok (by
    unfold permOf
    rw [if_pos (by simp)]
    rfl)
  refine ⟨K, fd, callN (tabOf rs) k r.id, KX, fun s u => ?_, law.run, fun base hb hn => ?_⟩
  · exact .of_eq (binds_perm (us := [u]) (ws := []) (ks := []) Pl pm rfl)
  · obtain ⟨fd2, ⟨oc2, od2, osl2, el2⟩, _, _, _, _, z⟩ := text_fn (P := P) (w := w) hb hn c ok nd hc k r hr
    rw [el] at el2
    cases el2
    rw [hps] at z
    exact z
end
end Dv
end
section
namespace Dv
open PySem
structure Run {α : Type} (m : M α) (Q : α → Prop) : Prop where
  sat : m.Sat Q (fun _ _ => False)
namespace Run
variable {α β : Type}
theorem ok {a : α} {Q : α → Prop} (h : Q a) : Run (.ok a) Q := ⟨h⟩
theorem okd_ {a : D} {Q : Val → Prop} (h : Q (.d a)) : Run (okd a) Q := ⟨h⟩
theorem of_eq {m : M α} {a : α} {Q : α → Prop} (e : m = .ok a) (h : Q a) : Run m Q := by subst e; exact ⟨h⟩
theorem bind {m : M α} {f : α → M β} {Q : β → Prop} (h : Run m fun a => Run (f a) Q) : Run (m.bind f) Q :=
  ⟨(M.sat_bind m f Q _).mpr (h.sat.mono (fun _ z => z.sat) fun _ _ z => z)⟩
theorem unbind {m : M α} {f : α → M β} {Q : β → Prop} (h : Run (m.bind f) Q) : Run m fun a => Run (f a) Q :=
  ⟨((M.sat_bind m f Q _).mp h.sat).mono (fun _ z => ⟨z⟩) fun _ _ z => z⟩
theorem mono {m : M α} {Q R : α → Prop} (h : Run m Q) (q : ∀ a, Q a → R a) : Run m R := ⟨h.sat.mono q fun _ _ z => z⟩
theorem bindm {m : M α} {f : α → M β} {P : α → Prop} {Q : β → Prop} (h : Run m P) (q : ∀ a, P a → Run (f a) Q) : Run (m.bind f) Q := bind (h.mono q)
theorem draw {n : Int} {k : Int → M α} {Q : α → Prop} (h0 : 0 < n) (h1 : n < 1073741824) (h : ∀ r, 0 ≤ r → r < n → Run (k r) Q) : Run (.draw n k) Q := ⟨⟨⟨h0, h1⟩, fun r a b => (h r a b).sat⟩⟩
theorem quiet_ : ∀ {m : M α} {Q : α → Prop} {E : Nat → List D → Prop}, m.Sat Q (fun _ _ => False) → m.quiet.Sat Q E
  | .ok _, _, _, h => h
  | .exn _ _, _, _, h => h
  | .bad, _, _, h => h
  | .draw _ k, _, _, h => ⟨h.1, fun r a b => quiet_ (h.2 r a b)⟩
theorem quiet {m : M α} {Q : α → Prop} (h : Run m Q) : Run m.quiet Q := ⟨quiet_ h.sat⟩
end Run
/-- a loop by its invariant -/
theorem forM_inv {f : D → Rho → M (Rho × Fl)} {I : Rho → Prop} : ∀ {xs : List D} {ρ : Rho}, (∀ x ∈ xs, ∀ ρ, I ρ → Run (f x ρ) fun p => p.2 = .nx ∧ I p.1) → I ρ → Run (forM f xs ρ) fun p => p.2 = .nx ∧ I p.1
  | [], ρ, _, h => .ok ⟨rfl, h⟩
  | x :: xs, ρ, s, h => by
    unfold forM
    refine .bindm (s x List.mem_cons_self ρ h) fun p hp => ?_
    rw [hp.1]
    exact forM_inv (fun y hy => s y (List.mem_cons_of_mem _ hy)) hp.2
/-- a list made turn by turn -/
theorem compM_run {f : D → M (Option D)} {P : D → Prop} : ∀ {xs : List D}, (∀ x ∈ xs, Run (f x) fun o => ∃ y, o = some y ∧ P y) → Run (compM f xs) fun l => l.length = xs.length ∧ ∀ y ∈ l, P y
  | [], _ => .ok ⟨rfl, fun _ h => nomatch h⟩
  | x :: xs, h => by
    unfold compM
    refine .bindm (h x List.mem_cons_self) fun o ho => ?_
    refine ho.elim fun y z => ?_
    rw [z.1]
    refine .bindm (compM_run fun y hy => h y (List.mem_cons_of_mem _ hy)) fun l hl => ?_
    refine .ok ⟨by simp [hl.1], fun v hv => ?_⟩
    rcases List.mem_cons.mp hv with rfl | hv
    · exact z.2
    · exact hl.2 v hv
section
variable {C : CallT} {ρ : Rho}
/-- one statement, then the others -/
theorem seq_run {s : Sx} {r : Sxs} {I : Rho → Prop} {Q : Rho × Fl → Prop} (h : Run (evalS C s ρ) fun p => p.2 = .nx ∧ I p.1) (q : ∀ ρ, I ρ → Run (evalSs C r ρ) Q) : Run (evalSs C (.cons s r) ρ) Q := by
  rw [ss_cons]
  refine .bindm h fun p hp => ?_
  rw [hp.1]
  exact q _ hp.2
theorem seq_eq {s : Sx} {r : Sxs} {ρ' : Rho} {Q : Rho × Fl → Prop} (h : evalS C s ρ = .ok (ρ', .nx)) (q : Run (evalSs C r ρ') Q) : Run (evalSs C (.cons s r) ρ) Q := by
  rw [ss_cons, h]
  exact q
theorem loop_run {tg : Tg} {it : Ix} {b : Sxs} {xs : List D} {I : Rho → Prop} (hx : evalI C it ρ = .ok xs) (s : ∀ x ∈ xs, ∀ ρ, I ρ → Run (lap C tg b x ρ) fun p => p.2 = .nx ∧ I p.1) (h : I ρ) : Run (evalS C (.loop tg it b) ρ) fun p => p.2 = .nx ∧ I p.1 := by
  rw [es_loopL, hx]
  exact forM_inv s h
end
end Dv
end
section
namespace DvK
open PySem PySem.Spec PyProof.Rows L2 Dv
def b1 : Sxs := (.cons (.ret (.and_ (.isa (.var 0) .int) (.not_ (.isa (.var 0) .bool)))) .nil)
def b2 : Sxs := (.cons (.ifs (.or_ (.not_ (.call 1 (.cons (.var 0) .nil) [0])) (.and_ (.cmp .IsNot (.var 1) (.con .none)) (.cmp .Lt (.var 0) (.var 1)))) (.cons (.ret (.con (.bool false))) .nil) .nil) (.cons (.ret (.or_ (.cmp .Is (.var 2) (.con .none)) (.cmp .LtE (.var 0) (.var 2)))) .nil))
def b3 : Sxs := (.cons (.ifs (.not_ (.call 2 (.cons (.var 0) (.cons (.var 1) (.cons (.var 2) .nil))) [0, 1, 2])) (.cons .raise .nil) .nil) .nil)
def b4 : Sxs := (.cons (.ret (.and_ (.isa (.var 0) .tuple) (.cmp .Eq (.blt .len (.cons (.var 0) .nil)) (.var 1)))) .nil)
def b5 : Sxs := (.cons (.ret (.call 2 (.cons (.var 1) (.cons (.con (.int 0)) (.cons (.var 0) .nil))) [0, 1, 2])) .nil)
def b6 : Sxs := (.cons (.exp (.call 3 (.cons (.var 0) (.cons (.con (.int 1)) (.cons (.con (.int 6)) .nil))) [0, 1, 2])) .nil)
def b7 : Sxs := (.cons (.ifs (.not_ (.call 5 (.cons (.var 0) (.cons (.var 1) .nil)) [0, 1])) (.cons .raise .nil) .nil) .nil)
def b8 : Sxs := (.cons (.ifs (.or_ (.not_ (.call 4 (.cons (.var 1) (.cons (.bin .Add (.var 0) (.con (.int 1))) .nil)) [0, 1])) (.not_ (.blt .all (.cons (.comp (.call 5 (.cons (.var 0) (.cons (.var 5) .nil)) [0, 1]) (.nm 5) (.seq (.var 1)) .nil [5]) .nil)))) (.cons (.ret (.con (.bool false))) .nil) .nil) (.cons (.par 2 3 (.idx (.var 1) (.con (.int 0))) (.idx (.var 1) (.con (.int 0)))) (.cons (.loop (.nm 4) (.seq (.slc (.var 1) (.yes (.con (.int 1))) .no)) (.cons (.ifs (.and_ (.cmp .NotEq (.var 4) (.bin .Sub (.var 2) (.con (.int 1)))) (.cmp .NotEq (.var 4) (.bin .Add (.var 3) (.con (.int 1))))) (.cons (.ret (.con (.bool false))) .nil) .nil) (.cons (.par 2 3 (.blt .min (.cons (.var 2) (.cons (.var 4) .nil))) (.blt .max (.cons (.var 3) (.cons (.var 4) .nil)))) .nil))) (.cons (.ret (.con (.bool true))) .nil))))
def b9 : Sxs := (.cons (.set 2 (.lst (.cons (.tup (.cons (.var 1) .nil)) .nil))) (.cons (.loop (.nm 3) (.rng (.var 0)) (.cons (.own 4 (.lst .nil)) (.cons (.loop (.nm 5) (.seq (.var 2)) (.cons (.ifs (.cmp .Gt (.blt .min (.cons (.var 5) .nil)) (.con (.int 0))) (.cons (.app 4 (.bin .Add (.var 5) (.tup (.cons (.bin .Sub (.blt .min (.cons (.var 5) .nil)) (.con (.int 1))) .nil)))) .nil) .nil) (.cons (.ifs (.cmp .Lt (.blt .max (.cons (.var 5) .nil)) (.var 0)) (.cons (.app 4 (.bin .Add (.var 5) (.tup (.cons (.bin .Add (.blt .max (.cons (.var 5) .nil)) (.con (.int 1))) .nil)))) .nil) .nil) .nil))) (.cons (.frz [4] (.set 2 (.var 4))) .nil)))) (.cons (.ret (.blt .sorted (.cons (.var 2) .nil))) .nil)))
def b10 : Sxs := (.cons (.ret (.cmp .Lt (.mth .index (.var 0) (.cons (.var 1) .nil)) (.mth .index (.var 0) (.cons (.var 2) .nil)))) .nil)
def b11 : Sxs := (.cons (.loop (.nm 4) (.seq (.call 9 (.cons (.var 0) (.cons (.var 1) .nil)) [0, 1])) (.cons (.ifs (.call 10 (.cons (.var 4) (.cons (.var 2) (.cons (.var 3) .nil))) [0, 1, 2]) (.cons (.ret (.var 4)) .nil) .nil) .nil)) (.cons (.ret (.con .none)) .nil))
def b12 : Sxs := (.cons (.exp (.call 6 (.cons (.var 0) .nil) [0])) (.cons (.ret (.call 8 (.cons (.var 0) (.cons (.var 1) .nil)) [0, 1])) .nil))
def b13 : Sxs := (.cons (.exp (.call 6 (.cons (.var 0) .nil) [0])) (.cons (.exp (.call 7 (.cons (.var 0) (.cons (.var 1) .nil)) [0, 1])) (.cons (.ret (.blt .tuple (.cons (.call 9 (.cons (.var 0) (.cons (.var 1) .nil)) [0, 1]) .nil))) .nil)))
def b14 : Sxs := (.cons (.exp (.call 6 (.cons (.var 0) .nil) [0])) (.cons (.loop (.nm 4) (.seq (.tup (.cons (.var 1) (.cons (.var 2) (.cons (.var 3) .nil))))) (.cons (.exp (.call 7 (.cons (.var 0) (.cons (.var 4) .nil)) [0, 1])) .nil)) (.cons (.ret (.call 11 (.cons (.var 0) (.cons (.var 1) (.cons (.var 2) (.cons (.var 3) .nil)))) [0, 1, 2, 3])) .nil)))
def b15 : Sxs := (.cons (.ifs (.or_ (.not_ (.isa (.var 0) .tuple)) (.or_ (.not_ (.chain .LtE .LtE (.con (.int 2)) (.blt .len (.cons (.var 0) .nil)) (.bin .Add (.con (.int 6)) (.con (.int 1))))) (.not_ (.call 8 (.cons (.bin .Sub (.blt .len (.cons (.var 0) .nil)) (.con (.int 1))) (.cons (.var 0) .nil)) [0, 1])))) (.cons .raise .nil) .nil) (.cons (.exp (.call 7 (.cons (.bin .Sub (.blt .len (.cons (.var 0) .nil)) (.con (.int 1))) (.cons (.var 1) .nil)) [0, 1])) (.cons (.exp (.call 7 (.cons (.bin .Sub (.blt .len (.cons (.var 0) .nil)) (.con (.int 1))) (.cons (.var 2) .nil)) [0, 1])) (.cons (.ret (.call 10 (.cons (.var 0) (.cons (.var 1) (.cons (.var 2) .nil))) [0, 1, 2])) .nil))))
def b16 : Sxs := (.cons (.set 2 (.bin .Add (.con (.int 1616078)) (.bin .Mult (.con (.int 5231)) (.var 1)))) (.cons (.loop (.nm 3) (.seq (.slc (.var 0) .no (.yes (.con (.int 9))))) (.cons (.set 2 (.bin .Mod (.blt .int (.cons (.bin .Add (.bin .Add (.bin .Mult (.var 2) (.con (.int 47521))) (.bin .Mod (.blt .int (.cons (.var 3) .nil)) (.con (.int 2147483549)))) (.con (.int 41))) .nil)) (.con (.int 2147483629)))) .nil)) (.cons (.set 4 (.ite (.cmp .Lt (.var 1) (.blt .len (.cons (.var 0) .nil))) (.blt .int (.cons (.idx (.var 0) (.var 1)) .nil)) (.con (.int 0)))) (.cons (.set 2 (.bin .Mod (.blt .int (.cons (.bin .Add (.bin .Add (.bin .Mult (.var 2) (.con (.int 61))) (.bin .Mult (.bin .Mod (.blt .int (.cons (.var 4) .nil)) (.con (.int 2147483549))) (.con (.int 16007)))) (.con (.int 17))) .nil)) (.con (.int 2147483629)))) (.cons (.ret (.mkw (.cons (.ite (.or_ (.cmp .Lt (.var 4) (.con (.int 0))) (.cmp .GtE (.var 4) (.bin .Pow (.con (.int 10)) (.con (.int 15))))) (.blt .abs (.cons (.var 4) .nil)) (.con (.int 0))) (.cons (.var 2) (.cons (.con (.int 0)) .nil))))) .nil)))))
def b18 : Sxs := (.cons (.ret (.idx (.var 1) (.call 17 (.cons (.var 0) (.cons (.blt .len (.cons (.var 1) .nil)) .nil)) [0, 1]))) .nil)
def b19 : Sxs := (.cons (.ret (.cmp .Eq (.blt .repr (.cons (.var 0) .nil)) (.blt .repr (.cons (.var 1) .nil)))) .nil)
def b20 : Sxs := (.cons (.ifs (.or_ (.not_ (.isa (.var 1) .tuple)) (.cmp .NotEq (.blt .len (.cons (.var 1) .nil)) (.bin .Add (.var 0) (.con (.int 1))))) (.cons (.ret (.con (.bool false))) .nil) .nil) (.cons (.ifs (.cmp .NotEq (.comp (.con (.int 1)) (.nm 4) (.seq (.var 1)) (.cons (.or_ (.not_ (.isa (.var 4) .int)) (.or_ (.isa (.var 4) .bool) (.not_ (.chain .LtE .LtE (.con (.int 0)) (.var 4) (.var 0))))) .nil) [4]) (.lst .nil)) (.cons (.ret (.con (.bool false))) .nil) .nil) (.cons (.loop (.nm 2) (.rng2 (.con (.int 1)) (.bin .Add (.var 0) (.con (.int 2)))) (.cons (.set 3 (.slc (.var 1) .no (.yes (.var 2)))) (.cons (.ifs (.or_ (.cmp .Lt (.blt .lenset (.cons (.var 3) .nil)) (.var 2)) (.cmp .NotEq (.bin .Sub (.blt .max (.cons (.var 3) .nil)) (.blt .min (.cons (.var 3) .nil))) (.bin .Sub (.var 2) (.con (.int 1))))) (.cons (.ret (.con (.bool false))) .nil) .nil) .nil))) (.cons (.ret (.con (.bool true))) .nil))))
def b21 : Sxs := (.cons (.set 2 (.lst (.cons (.tup (.cons (.var 1) .nil)) .nil))) (.cons (.loop (.nm 3) (.rng (.var 0)) (.cons (.set 4 (.lst .nil)) (.cons (.loop (.nm 5) (.seq (.var 2)) (.cons (.set 4 (.bin .Add (.var 4) (.comp (.bin .Add (.var 5) (.tup (.cons (.var 6) .nil))) (.nm 6) (.seq (.tup (.cons (.bin .Sub (.blt .min (.cons (.var 5) .nil)) (.con (.int 1))) (.cons (.bin .Add (.blt .max (.cons (.var 5) .nil)) (.con (.int 1))) .nil)))) (.cons (.chain .LtE .LtE (.con (.int 0)) (.var 6) (.var 0)) .nil) [6]))) .nil)) (.cons (.set 2 (.var 4)) .nil)))) (.cons (.ret (.blt .sorted (.cons (.var 2) .nil))) .nil)))
def b22 : Sxs := (.cons (.asg (.tp [2, 3]) (.tup (.cons (.call 17 (.cons (.var 0) (.cons (.blt .len (.cons (.var 1) .nil)) .nil)) [0, 1]) (.cons (.call 17 (.cons (.var 0) (.cons (.blt .len (.cons (.var 1) .nil)) .nil)) [0, 1]) .nil)))) (.cons (.set 4 (.lst (.cons (.con .none) (.cons (.tup .nil) (.cons (.con (.int 5)) (.cons (.con (.str (Str.ofString "0"))) (.cons (.blt .list (.cons (.var 1) .nil)) (.cons (.slc (.var 1) .no (.yes (.neg (.con (.int 1))))) (.cons (.bin .Add (.var 1) (.tup (.cons (.con (.int 0)) .nil))) (.cons (.bin .Add (.var 1) (.slc (.var 1) (.yes (.neg (.con (.int 1)))) .no)) (.cons (.rev (.var 1)) (.cons (.tup (.cons (.var 1) .nil)) .nil)))))))))))) (.cons (.set 4 (.bin .Add (.var 4) (.comp (.bin .Add (.bin .Add (.slc (.var 1) .no (.yes (.var 2))) (.tup (.cons (.var 8) .nil))) (.slc (.var 1) (.yes (.bin .Add (.var 2) (.con (.int 1)))) .no)) (.nm 8) (.seq (.tup (.cons (.con (.bool true)) (.cons (.con .none) (.cons (.neg (.con (.int 1))) (.cons (.con (.int 7)) (.cons (.con (.str (Str.ofString "0"))) (.cons (.idx (.var 1) (.var 3)) .nil)))))))) .nil [8]))) (.cons (.par 5 6 (.blt .min (.cons (.var 2) (.cons (.var 3) .nil))) (.blt .max (.cons (.var 2) (.cons (.var 3) .nil)))) (.cons (.set 7 (.bin .Add (.bin .Add (.bin .Add (.bin .Add (.slc (.var 1) .no (.yes (.var 5))) (.slc (.var 1) (.yes (.var 6)) (.yes (.bin .Add (.var 6) (.con (.int 1)))))) (.slc (.var 1) (.yes (.bin .Add (.var 5) (.con (.int 1)))) (.yes (.var 6)))) (.slc (.var 1) (.yes (.var 5)) (.yes (.bin .Add (.var 5) (.con (.int 1)))))) (.slc (.var 1) (.yes (.bin .Add (.var 6) (.con (.int 1)))) .no))) (.cons (.ret (.call 18 (.cons (.var 0) (.cons (.bin .Add (.var 4) (.lst (.cons (.ite (.cmp .Lt (.var 5) (.var 6)) (.var 7) (.var 1)) (.cons (.ite (.cmp .Lt (.var 5) (.var 6)) (.var 7) (.var 1)) .nil)))) .nil)) [0, 1])) .nil))))))
def b23 : Sxs := (.cons (.loop (.nm 1) (.rng (.con (.int 6))) (.cons (.set 2 (.bin .Add (.con (.int 1)) (.call 17 (.cons (.var 0) (.cons (.con (.int 6)) .nil)) [0, 1]))) (.cons (.set 3 (.call 17 (.cons (.var 0) (.cons (.bin .Add (.var 2) (.con (.int 1))) .nil)) [0, 1])) (.cons (.set 4 (.blt .tuple (.cons (.call 21 (.cons (.var 2) (.cons (.var 3) .nil)) [0, 1]) .nil))) (.cons (.ifs (.not_ (.call 19 (.cons (.lst (.cons (.call 13 (.cons (.var 2) (.cons (.var 3) .nil)) [0, 1]) (.cons (.call 13 (.cons (.var 3) (.cons (.var 2) .nil)) [1, 0]) .nil))) (.cons (.lst (.cons (.var 4) (.cons (.var 4) .nil))) .nil)) [0, 1])) (.cons (.ret (.con (.bool false))) .nil) .nil) (.cons (.set 5 (.call 18 (.cons (.var 0) (.cons (.var 4) .nil)) [0, 1])) (.cons (.loop (.nm 6) (.seq (.bin .Add (.lst (.cons (.var 5) .nil)) (.comp (.call 22 (.cons (.var 0) (.cons (.var 5) .nil)) [0, 1]) (.nm 14) (.rng (.con (.int 9))) .nil [14]))) (.cons (.set 7 (.call 20 (.cons (.var 2) (.cons (.var 6) .nil)) [0, 1])) (.cons (.ifs (.not_ (.call 19 (.cons (.lst (.cons (.call 12 (.cons (.var 2) (.cons (.var 6) .nil)) [0, 1]) (.cons (.call 12 (.cons (.var 6) (.cons (.var 2) .nil)) [1, 0]) .nil))) (.cons (.lst (.cons (.var 7) (.cons (.var 7) .nil))) .nil)) [0, 1])) (.cons (.ret (.con (.bool false))) .nil) .nil) .nil))) (.cons (.set 8 (.bin .Add (.con (.int 1)) (.call 17 (.cons (.var 0) (.cons (.con (.int 6)) .nil)) [0, 1]))) (.cons (.ifs (.not_ (.call 19 (.cons (.call 12 (.cons (.var 8) (.cons (.var 5) .nil)) [0, 1]) (.cons (.cmp .Eq (.var 8) (.var 2)) .nil)) [0, 1])) (.cons (.ret (.con (.bool false))) .nil) .nil) (.cons (.loop (.nm 9) (.rng (.bin .Add (.var 2) (.con (.int 1)))) (.cons (.loop (.nm 10) (.rng (.bin .Add (.var 2) (.con (.int 1)))) (.cons (.set 11 (.comp (.var 15) (.nm 15) (.seq (.var 4)) (.cons (.cmp .Lt (.mth .index (.var 15) (.cons (.var 9) .nil)) (.mth .index (.var 15) (.cons (.var 10) .nil))) .nil) [15])) (.cons (.set 7 (.ite (.cmp .NotEq (.var 11) (.lst .nil)) (.idx (.var 11) (.con (.int 0))) (.con .none))) (.cons (.set 12 (.lst (.cons (.call 14 (.cons (.var 2) (.cons (.var 3) (.cons (.var 9) (.cons (.var 10) .nil)))) [0, 1, 2, 3]) (.cons (.call 14 (.cons (.var 10) (.cons (.var 9) (.cons (.var 3) (.cons (.var 2) .nil)))) [3, 2, 1, 0]) .nil)))) (.cons (.ifs (.not_ (.call 19 (.cons (.var 12) (.cons (.lst (.cons (.var 7) (.cons (.var 7) .nil))) .nil)) [0, 1])) (.cons (.ret (.con (.bool false))) .nil) .nil) (.cons (.set 13 (.cmp .Lt (.mth .index (.var 5) (.cons (.var 9) .nil)) (.mth .index (.var 5) (.cons (.var 10) .nil)))) (.cons (.set 12 (.lst (.cons (.call 15 (.cons (.var 5) (.cons (.var 9) (.cons (.var 10) .nil))) [0, 1, 2]) (.cons (.call 15 (.cons (.var 10) (.cons (.var 9) (.cons (.var 5) .nil))) [2, 1, 0]) .nil)))) (.cons (.ifs (.not_ (.call 19 (.cons (.var 12) (.cons (.lst (.cons (.var 13) (.cons (.var 13) .nil))) .nil)) [0, 1])) (.cons (.ret (.con (.bool false))) .nil) .nil) .nil)))))))) .nil)) .nil)))))))))) (.cons (.ret (.con (.bool true))) .nil))
def b24 : Sxs := (.cons (.ret (.blt .all (.cons (.comp (.call 23 (.cons (.call 16 (.cons (.var 0) (.cons (.var 1) .nil)) [0, 1]) .nil) [0]) (.nm 1) (.rng (.blt .max (.cons (.con (.int 1)) (.cons (.blt .min (.cons (.blt .len (.cons (.var 0) .nil)) (.cons (.con (.int 3)) .nil))) .nil)))) .nil [1]) .nil))) .nil)
end DvK
end
section
namespace DvK
open PySem L2 Dv
theorem call_fn {T : Tab} {n k : Nat} {F : Fn} {vs : List Val} (h : T k = some (.fn F)) (hl : F.np = vs.length) : callN T (n + 1) k vs = (evalSs (callN T n) F.body (rhoOf F.ns vs)).bind endM := by
  show (match T k with | some (.fn F) => _ | some .draw => _ | some .well => _ | none => _) = _
  rw [h]
  exact if_pos hl
theorem call_draw {T : Tab} {n k : Nat} {m : Int} (h : T k = some .draw) : callN T (n + 1) k [.well, .d (.int m)] = .draw m fun r => okd (.int r) := by
  show (match T k with | some (.fn F) => _ | some .draw => _ | some .well => _ | none => _) = _
  rw [h]
theorem compM_map {f : D → M (Option D)} {g : D → D} : ∀ {xs : List D}, (∀ x ∈ xs, f x = .ok (some (g x))) → compM f xs = .ok (xs.map g)
  | [], _ => rfl
  | x :: xs, h => by
    unfold compM
    rw [h x List.mem_cons_self, compM_map fun y hy => h y (List.mem_cons_of_mem _ hy)]
    rfl
theorem bools_map {α : Type} (p : α → Bool) : ∀ xs : List α, boolsOf (xs.map fun x => PyData.bool (p x)) = some (xs.map p)
  | [] => rfl
  | x :: xs => by
    unfold boolsOf
    rw [List.map_cons]
    simp only [bools_map p xs]
    rfl
theorem lim_small {n : Nat} (h : n ≤ 1000) : lim n = true := Nat.ble_eq_true_of_le (by omega)
structure HasT (T : Tab) : Prop where
  t1 : T 1 = some (.fn ⟨1, 1, b1⟩)
  t2 : T 2 = some (.fn ⟨3, 3, b2⟩)
  t3 : T 3 = some (.fn ⟨3, 3, b3⟩)
  t4 : T 4 = some (.fn ⟨2, 2, b4⟩)
  t5 : T 5 = some (.fn ⟨2, 2, b5⟩)
  t6 : T 6 = some (.fn ⟨1, 1, b6⟩)
  t7 : T 7 = some (.fn ⟨2, 2, b7⟩)
  t8 : T 8 = some (.fn ⟨2, 6, b8⟩)
  t9 : T 9 = some (.fn ⟨2, 6, b9⟩)
  t10 : T 10 = some (.fn ⟨3, 3, b10⟩)
  t11 : T 11 = some (.fn ⟨4, 5, b11⟩)
  t12 : T 12 = some (.fn ⟨2, 2, b12⟩)
  t13 : T 13 = some (.fn ⟨2, 2, b13⟩)
  t14 : T 14 = some (.fn ⟨4, 5, b14⟩)
  t15 : T 15 = some (.fn ⟨3, 3, b15⟩)
  t16 : T 16 = some (.fn ⟨2, 5, b16⟩)
  t17 : T 17 = some .draw
  t18 : T 18 = some (.fn ⟨2, 2, b18⟩)
  t19 : T 19 = some (.fn ⟨2, 2, b19⟩)
  t20 : T 20 = some (.fn ⟨2, 5, b20⟩)
  t21 : T 21 = some (.fn ⟨2, 7, b21⟩)
  t22 : T 22 = some (.fn ⟨2, 9, b22⟩)
  t23 : T 23 = some (.fn ⟨1, 16, b23⟩)
  t24 : T 24 = some (.fn ⟨1, 2, b24⟩)
section
variable {T : Tab} (hT : HasT T) (n : Nat)
include hT
def isInt : D → Bool
  | .int _ => true
  | _ => false
def inR (lo hi : Int) : D → Bool
  | .int i => decide (lo ≤ i) && decide (i ≤ hi)
  | _ => false
theorem f1 (v : D) : callN T (n + 1) 1 [.d v] = okd (.bool (isInt v)) := by
  rw [call_fn hT.t1 rfl]
  cases v <;> rfl
theorem f2 (v : D) (lo hi : Int) : callN T (n + 2) 2 [.d v, .d (.int lo), .d (.int hi)] = okd (.bool (inR lo hi v)) := by
  rw [call_fn hT.t2 rfl]
  cases v with
  | int i =>
    by_cases h1 : i < lo <;> by_cases h2 : i ≤ hi <;> simp [b2, evalSs, evalS, evalE, evalDs, evalVs, M.bind, getV, rhoOf, Val.asD, asB, pickK, okd, endM, f1 hT, isInt, cmp_lt, cmp_le, cmp_is, cmp_isnot, isNoneD, inR, h1, h2, Int.not_lt.mp]
  | _ => simp [b2, evalSs, evalS, evalE, evalDs, evalVs, M.bind, getV, rhoOf, Val.asD, asB, pickK, okd, endM, f1 hT, isInt, inR]
theorem f3 {v : D} {lo hi : Int} (h : inR lo hi v = true) : callN T (n + 3) 3 [.d v, .d (.int lo), .d (.int hi)] = okd .none := by
  rw [call_fn hT.t3 rfl]
  simp [b3, evalSs, evalS, evalE, evalDs, evalVs, M.bind, getV, rhoOf, asB, pickK, okd, endM, f2 hT, h]
def isTl (m : Int) : D → Bool
  | .tuple xs => decide ((xs.length : Int) = m)
  | _ => false
theorem f4 (v : D) (m : Int) : callN T (n + 1) 4 [.d v, .d (.int m)] = okd (.bool (isTl m v)) := by
  rw [call_fn hT.t4 rfl]
  cases v with
  | tuple xs => simp [b4, evalSs, evalS, evalE, evalDs, evalVs, M.bind, getV, rhoOf, Val.asD, asB, pickK, okd, endM, isTl, isaD, bltD, lenD, cmp_eq]
  | _ => simp [b4, evalSs, evalS, evalE, evalDs, evalVs, M.bind, getV, rhoOf, Val.asD, asB, pickK, okd, endM, isTl, isaD]
theorem f5 (v : D) (top : Int) : callN T (n + 3) 5 [.d (.int top), .d v] = okd (.bool (inR 0 top v)) := by
  rw [call_fn hT.t5 rfl]
  simp [b5, evalSs, evalS, evalE, evalDs, evalVs, M.bind, getV, rhoOf, asB, pickK, okd, endM, f2 hT]
theorem f6 {top : Int} (h : inR 1 6 (.int top) = true) : callN T (n + 4) 6 [.d (.int top)] = okd .none := by
  rw [call_fn hT.t6 rfl]
  simp [b6, evalSs, evalS, evalE, evalDs, evalVs, M.bind, getV, rhoOf, asB, pickK, okd, endM, f3 hT n h]
theorem f7 {v : D} {top : Int} (h : inR 0 top v = true) : callN T (n + 4) 7 [.d (.int top), .d v] = okd .none := by
  rw [call_fn hT.t7 rfl]
  simp [b7, evalSs, evalS, evalE, evalDs, evalVs, M.bind, getV, rhoOf, asB, pickK, okd, endM, f5 hT, h]
/-- each one next to those before -/
def scan (lo hi : Int) : List Int → Bool
  | [] => true
  | x :: r => if x ≠ lo - 1 ∧ x ≠ hi + 1 then false else scan (if x < lo then x else lo) (if hi < x then x else hi) r
def isWishV (top : Int) : D → Bool
  | .tuple xs => decide ((xs.length : Int) = top + 1) && (xs.all (inR 0 top) && (match intsOf xs with
    | some (x :: r) => scan x x r
    | _ => false))
  | _ => false
omit hT in
theorem ints_inR {top : Int} : ∀ {xs : List D}, xs.all (inR 0 top) = true → ∃ ns : List Int, xs = ns.map .int ∧ intsOf xs = some ns
  | [], _ => ⟨[], rfl, rfl⟩
  | x :: xs, h => by
    rw [List.all_cons, Bool.and_eq_true] at h
    obtain ⟨ns, h1, h2⟩ := ints_inR h.2
    cases x with
    | int i =>
      refine ⟨i :: ns, by rw [h1]; rfl, ?_⟩
      unfold intsOf
      rw [h2]
      rfl
    | _ => cases h.1
omit hT in
theorem scan_loop (C : CallT) (a b : Option Slot) : ∀ (ns : List Int) (lo hi : Int) (c d : Option Slot), ∃ ρ', Dv.forM (lap C (.nm 4) (.cons (.ifs (.and_ (.cmp .NotEq (.var 4) (.bin .Sub (.var 2) (.con (.int 1)))) (.cmp .NotEq (.var 4) (.bin .Add (.var 3) (.con (.int 1))))) (.cons (.ret (.con (.bool false))) .nil) .nil) (.cons (.par 2 3 (.blt .min (.cons (.var 2) (.cons (.var 4) .nil))) (.blt .max (.cons (.var 3) (.cons (.var 4) .nil)))) .nil))) (ns.map .int)
    [a, b, some (.v (.d (.int lo))), some (.v (.d (.int hi))), c, d] = .ok (ρ', if scan lo hi ns = true then .nx else .rt (.d (.bool false)))
  | [], lo, hi, c, d => ⟨_, rfl⟩
  | x :: ns, lo, hi, c, d => by
    rw [List.map_cons]
    unfold Dv.forM
    by_cases h : x ≠ lo - 1 ∧ x ≠ hi + 1
    · obtain ⟨h1, h2⟩ := h
      refine ⟨[a, b, some (.v (.d (.int lo))), some (.v (.d (.int hi))), some (.v (.d (.int x))), d], ?_⟩
      simp [lap, asgD, ev_var, ev_rd, ev_con, ev_tup, ev_lst, ev_bin, ev_neg, ev_not, ev_and, ev_or, ev_cmp, ev_chain, ev_ite, ev_call, ev_blt, ev_isa, ev_mth, ev_idx, ev_slc, ev_rev, ev_mkw, ev_comp, es_set, es_own, es_asg, es_par, es_ifs, es_ret, es_retn, es_pass, es_cont, es_exp, es_frz, es_loopL, ss_nil, ss_cons, evalDs, evalVs, evalT, evalO, evalI, M.bind, getV, getR, rhoOf, Val.asD, asB, asI, pickK, okd, endM, cmp_ne, bin_sub, bin_add, h1, h2, scan]
    · obtain ⟨ρ', e⟩ := scan_loop C a b ns (if x < lo then x else lo) (if hi < x then x else hi) (some (.v (.d (.int x)))) d
      refine ⟨ρ', ?_⟩
      have hs : scan lo hi (x :: ns) = scan (if x < lo then x else lo) (if hi < x then x else hi) ns := by
        show (if x ≠ lo - 1 ∧ x ≠ hi + 1 then false else _) = _
        rw [if_neg h]
      rw [hs, ← e]
      have hb : (decide (x = lo - 1) || decide (x = hi + 1)) = true := by
        by_cases h1 : x = lo - 1
        · simp [h1]
        · by_cases h2 : x = hi + 1
          · simp [h2]
          · exact absurd ⟨h1, h2⟩ h
      by_cases h1 : x = lo - 1
      · have e1 : decide (x = lo - 1) = true := decide_eq_true h1
        simp [lap, asgD, ev_var, ev_rd, ev_con, ev_tup, ev_lst, ev_bin, ev_neg, ev_not, ev_and, ev_or, ev_cmp, ev_chain, ev_ite, ev_call, ev_blt, ev_isa, ev_mth, ev_idx, ev_slc, ev_rev, ev_mkw, ev_comp, es_set, es_own, es_asg, es_par, es_ifs, es_ret, es_retn, es_pass, es_cont, es_exp, es_frz, es_loopL, ss_nil, ss_cons, evalDs, evalVs, evalT, evalO, evalI, M.bind, getV, getR, rhoOf, Val.asD, asB, asI, pickK, okd, endM, cmp_ne, bin_sub, bin_add, bltD, e1]
      · have h2 : x = hi + 1 := by
          rw [decide_eq_false h1, Bool.false_or] at hb
          exact of_decide_eq_true hb
        have e1 : decide (x = lo - 1) = false := decide_eq_false h1
        have e2 : decide (x = hi + 1) = true := decide_eq_true h2
        simp [lap, asgD, ev_var, ev_rd, ev_con, ev_tup, ev_lst, ev_bin, ev_neg, ev_not, ev_and, ev_or, ev_cmp, ev_chain, ev_ite, ev_call, ev_blt, ev_isa, ev_mth, ev_idx, ev_slc, ev_rev, ev_mkw, ev_comp, es_set, es_own, es_asg, es_par, es_ifs, es_ret, es_retn, es_pass, es_cont, es_exp, es_frz, es_loopL, ss_nil, ss_cons, evalDs, evalVs, evalT, evalO, evalI, M.bind, getV, getR, rhoOf, Val.asD, asB, asI, pickK, okd, endM, cmp_ne, bin_sub, bin_add, bltD, e1, e2]
theorem f8 {top : Int} (h0 : 0 ≤ top) (h6 : top ≤ 6) (v : D) : callN T (n + 4) 8 [.d (.int top), .d v] = okd (.bool (isWishV top v)) := by
  rw [call_fn hT.t8 rfl]
  cases v with
  | tuple xs =>
    by_cases hl : (xs.length : Int) = top + 1
    · have comp : compM (turn (callN T (n + 3)) (.call 5 (.cons (.var 0) (.cons (.var 5) .nil)) [0, 1]) (.nm 5) .nil [5] [some (.v (.d (.int top))), some (.v (.d (.tuple xs))), none, none, none, none]) xs = .ok (xs.map fun x => .bool (inR 0 top x)) := by
        refine compM_map fun x hx => ?_
        simp [turn, asgD, wipeD, ev_var, ev_rd, ev_con, ev_tup, ev_lst, ev_bin, ev_neg, ev_not, ev_and, ev_or, ev_cmp, ev_chain, ev_ite, ev_call, ev_blt, ev_isa, ev_mth, ev_idx, ev_slc, ev_rev, ev_mkw, ev_comp, es_set, es_own, es_asg, es_par, es_ifs, es_ret, es_retn, es_pass, es_cont, es_exp, es_frz, es_loopL, ss_nil, ss_cons, evalDs, evalVs, evalT, evalO, evalI, M.bind, getV, getR, rhoOf, Val.asD, asB, asI, pickK, okd, endM, f5 hT]
      have hlim : lim xs.length = true := lim_small (by omega)
      have f4' := f4 hT (n + 2) (.tuple xs) (top + 1)
      have e4 : isTl (top + 1) (.tuple xs) = true := decide_eq_true hl
      rw [e4] at f4'
      cases ha : xs.all (inR 0 top) with
      | false =>
        have hw : isWishV top (.tuple xs) = false := by
          show (_ && (xs.all (inR 0 top) && _)) = false
          rw [ha, Bool.false_and, Bool.and_false]
        have hb : bltD .all [.list (xs.map fun x => .bool (inR 0 top x))] = okd (.bool false) := by
          show (match boolsOf (xs.map fun x => PyData.bool (inR 0 top x)) with | some bs => okd (.bool (bs.all id)) | none => .bad) = _
          rw [bools_map]
          show okd (.bool ((xs.map (inR 0 top)).all id)) = _
          rw [List.all_map]
          show okd (.bool (xs.all (inR 0 top))) = _
          rw [ha]
        simp [b8, ev_var, ev_rd, ev_con, ev_tup, ev_lst, ev_bin, ev_neg, ev_not, ev_and, ev_or, ev_cmp, ev_chain, ev_ite, ev_call, ev_blt, ev_isa, ev_mth, ev_idx, ev_slc, ev_rev, ev_mkw, ev_comp, es_set, es_own, es_asg, es_par, es_ifs, es_ret, es_retn, es_pass, es_cont, es_exp, es_frz, es_loopL, ss_nil, ss_cons, evalDs, evalVs, evalT, evalO, evalI, M.bind, getV, getR, rhoOf, Val.asD, asB, asI, pickK, okd, endM, bin_add, f4', iterD, comp, M.quiet, gd, hlim, hb, hw]
      | true =>
        have hb : bltD .all [.list (xs.map fun x => .bool (inR 0 top x))] = okd (.bool true) := by
          show (match boolsOf (xs.map fun x => PyData.bool (inR 0 top x)) with | some bs => okd (.bool (bs.all id)) | none => .bad) = _
          rw [bools_map]
          show okd (.bool ((xs.map (inR 0 top)).all id)) = _
          rw [List.all_map]
          show okd (.bool (xs.all (inR 0 top))) = _
          rw [ha]
        obtain ⟨ns, en, ei⟩ := ints_inR ha
        cases ns with
        | nil =>
          rw [en] at hl
          have z : (0 : Int) = top + 1 := hl
          omega
        | cons x r =>
          have hw : isWishV top (.tuple xs) = scan x x r := by
            show (decide ((xs.length : Int) = top + 1) && (xs.all (inR 0 top) && (match intsOf xs with | some (x :: r) => scan x x r | _ => false))) = _
            rw [ha, decide_eq_true hl, ei]
            simp
          have i0 : idxD (.tuple xs) 0 = okd (.int x) := by
            rw [en]
            simp [idxD, seqOf, atI, ixN]
          have s1 : slcD (.tuple xs) (some 1) none = okd (.tuple (r.map .int)) := by
            rw [en]
            have z : (r.map PyData.int).take r.length = r.map .int := List.take_of_length_le (by simp)
            simp [slcD, cutD, HT.sIx, z]
          obtain ⟨ρ', e⟩ := scan_loop (callN T (n + 3)) (some (.v (.d (.int top)))) (some (.v (.d (.tuple xs)))) r x x none none
          cases hs : scan x x r with
          | true =>
            rw [hs] at e hw
            simp [b8, ev_var, ev_rd, ev_con, ev_tup, ev_lst, ev_bin, ev_neg, ev_not, ev_and, ev_or, ev_cmp, ev_chain, ev_ite, ev_call, ev_blt, ev_isa, ev_mth, ev_idx, ev_slc, ev_rev, ev_mkw, ev_comp, es_set, es_own, es_asg, es_par, es_ifs, es_ret, es_retn, es_pass, es_cont, es_exp, es_frz, es_loopL, ss_nil, ss_cons, evalDs, evalVs, evalT, evalO, evalI, M.bind, getV, getR, rhoOf, Val.asD, asB, asI, pickK, okd, endM, bin_add, f4', iterD, comp, M.quiet, gd, hlim, hb, hw, i0, s1, e]
          | false =>
            rw [hs] at e hw
            simp [b8, ev_var, ev_rd, ev_con, ev_tup, ev_lst, ev_bin, ev_neg, ev_not, ev_and, ev_or, ev_cmp, ev_chain, ev_ite, ev_call, ev_blt, ev_isa, ev_mth, ev_idx, ev_slc, ev_rev, ev_mkw, ev_comp, es_set, es_own, es_asg, es_par, es_ifs, es_ret, es_retn, es_pass, es_cont, es_exp, es_frz, es_loopL, ss_nil, ss_cons, evalDs, evalVs, evalT, evalO, evalI, M.bind, getV, getR, rhoOf, Val.asD, asB, asI, pickK, okd, endM, bin_add, f4', iterD, comp, M.quiet, gd, hlim, hb, hw, i0, s1, e]
    · have f4' := f4 hT (n + 2) (.tuple xs) (top + 1)
      have e4 : isTl (top + 1) (.tuple xs) = false := decide_eq_false hl
      rw [e4] at f4'
      have hw : isWishV top (.tuple xs) = false := by
        show (decide ((xs.length : Int) = top + 1) && _) = false
        rw [decide_eq_false hl]
        rfl
      simp [b8, ev_var, ev_rd, ev_con, ev_tup, ev_lst, ev_bin, ev_neg, ev_not, ev_and, ev_or, ev_cmp, ev_chain, ev_ite, ev_call, ev_blt, ev_isa, ev_mth, ev_idx, ev_slc, ev_rev, ev_mkw, ev_comp, es_set, es_own, es_asg, es_par, es_ifs, es_ret, es_retn, es_pass, es_cont, es_exp, es_frz, es_loopL, ss_nil, ss_cons, evalDs, evalVs, evalT, evalO, evalI, M.bind, getV, getR, rhoOf, Val.asD, asB, asI, pickK, okd, endM, bin_add, f4', hw]
  | _ => simp [b8, ev_var, ev_rd, ev_con, ev_tup, ev_lst, ev_bin, ev_neg, ev_not, ev_and, ev_or, ev_cmp, ev_chain, ev_ite, ev_call, ev_blt, ev_isa, ev_mth, ev_idx, ev_slc, ev_rev, ev_mkw, ev_comp, es_set, es_own, es_asg, es_par, es_ifs, es_ret, es_retn, es_pass, es_cont, es_exp, es_frz, es_loopL, ss_nil, ss_cons, evalDs, evalVs, evalT, evalO, evalI, M.bind, getV, getR, rhoOf, Val.asD, asB, asI, pickK, okd, endM, bin_add, f4 hT, isTl, isWishV]
end
end DvK
end
section
namespace DvK
open PySem L2 Dv
theorem rng_nil {a b : Int} (h : b ≤ a) : rngD a b = [] := by
  unfold rngD
  rw [show (b - a).toNat = 0 by omega]
  rfl
theorem rng_cons {a b : Int} (h : a < b) : rngD a b = .int a :: rngD (a + 1) b := by
  unfold rngD
  rw [show (b - a).toNat = (b - (a + 1)).toNat + 1 by omega, List.range_succ_eq_map, List.map_cons, List.map_map]
  congr 1
  · simp
  · refine List.map_congr_left fun k _ => ?_
    show PyData.int (a + ((k + 1 : Nat) : Int)) = PyData.int (a + 1 + (k : Nat))
    congr 1
    omega
theorem alike_ints (l : List Int) : alikeB (l.map .int) = true := by
  unfold alikeB
  rw [List.all_map, List.all_eq_true]
  intro x _
  show (l.map PyData.int).all (fun y => W.alike (.int x) y) = true
  rw [List.all_map, List.all_eq_true]
  intro y _
  rfl
theorem mm_ints (a : Int) (l : List Int) : mmOk (.int a) (l.map .int) = true := by
  unfold mmOk
  have e : (PyData.int a :: l.map .int) = (a :: l).map .int := rfl
  rw [e, alike_ints, W.depth_ints]
  rfl
theorem min_ints (a : Int) (l : List Int) : bltD .min [.tuple (.int a :: l.map .int)] = okd (.int (l.foldl min a)) := by
  show gd (mmOk (.int a) (l.map .int)) (W.minD (.int a) (l.map .int)) = _
  rw [mm_ints, W.minD_ints]
  rfl
theorem max_ints (a : Int) (l : List Int) : bltD .max [.tuple (.int a :: l.map .int)] = okd (.int (l.foldl max a)) := by
  show gd (mmOk (.int a) (l.map .int)) (W.maxD (.int a) (l.map .int)) = _
  rw [mm_ints, W.maxD_ints]
  rfl
theorem ints_map : ∀ l : List Int, intsOf (l.map .int) = some l
  | [] => rfl
  | x :: l => by
    rw [List.map_cons]
    unfold intsOf
    rw [ints_map l]
    rfl
theorem lenset_ints {l : List Int} (h : l.length ≤ 60) : bltD .lenset [.tuple (l.map .int)] = okd (.int (dedI l).length) := by
  show (match intsOf (l.map .int) with | some ns => gd (Nat.ble ns.length 60) (.int (dedI ns).length) | none => M.bad) = _
  rw [ints_map]
  show gd (Nat.ble l.length 60) _ = _
  rw [Nat.ble_eq_true_of_le h]
  rfl
theorem ded_nodup : ∀ {l : List Int}, l.Nodup → dedI l = l
  | [], _ => rfl
  | x :: l, h => by
    obtain ⟨h1, h2⟩ := List.nodup_cons.mp h
    unfold dedI
    rw [ded_nodup h2]
    have : l.contains x = false := by simpa using h1
    rw [this]
    rfl
theorem fmin_le : ∀ (l : List Int) (a : Int), l.foldl min a ≤ a ∧ ∀ x ∈ l, l.foldl min a ≤ x
  | [], a => ⟨Int.le_refl _, fun _ h => nomatch h⟩
  | y :: l, a => by
    obtain ⟨h1, h2⟩ := fmin_le l (min a y)
    refine ⟨Int.le_trans h1 (Int.min_le_left _ _), fun x hx => ?_⟩
    rcases List.mem_cons.mp hx with rfl | hx
    · exact Int.le_trans h1 (Int.min_le_right _ _)
    · exact h2 x hx
theorem fmax_le : ∀ (l : List Int) (a : Int), a ≤ l.foldl max a ∧ ∀ x ∈ l, x ≤ l.foldl max a
  | [], a => ⟨Int.le_refl _, fun _ h => nomatch h⟩
  | y :: l, a => by
    obtain ⟨h1, h2⟩ := fmax_le l (max a y)
    refine ⟨Int.le_trans (Int.le_max_left _ _) h1, fun x hx => ?_⟩
    rcases List.mem_cons.mp hx with rfl | hx
    · exact Int.le_trans (Int.le_max_right _ _) h1
    · exact h2 x hx
def body20 : Sxs := (.cons (.set 3 (.slc (.var 1) .no (.yes (.var 2)))) (.cons (.ifs (.or_ (.cmp .Lt (.blt .lenset (.cons (.var 3) .nil)) (.var 2)) (.cmp .NotEq (.bin .Sub (.blt .max (.cons (.var 3) .nil)) (.blt .min (.cons (.var 3) .nil))) (.bin .Sub (.var 2) (.con (.int 1))))) (.cons (.ret (.con (.bool false))) .nil) .nil) .nil))
theorem take_at {ns done r : List Int} {x : Int} (h : ns = done ++ x :: r) : slcD (.tuple (ns.map .int)) none (some ((done.length : Int) + 1)) = okd (.tuple ((done ++ [x]).map .int)) := by
  subst h
  show okd (.tuple (cutD _ _ _)) = _
  unfold cutD
  have e : HT.sIx ((done ++ x :: r).map PyData.int).length 0 none = 0 := rfl
  have e2 : HT.sIx ((done ++ x :: r).map PyData.int).length ((done ++ x :: r).map PyData.int).length (some ((done.length : Int) + 1)) = done.length + 1 := by
    have z : ((done.length : Int) + 1) = ((done.length + 1 : Nat) : Int) := by omega
    rw [z, HT.sIx_nat]
    simp
  rw [e, e2, List.drop_zero, Nat.sub_zero, ← List.map_take]
  congr 3
  rw [List.take_append, List.take_of_length_le (by omega)]
  simp
theorem loop20 (C : CallT) (a : Option Slot) (ns : List Int) (hn : ns.length ≤ 60) : ∀ (rest : List Int) (d0 : Int) (ds : List Int) (s2 s3 s4 : Option Slot), ns = (d0 :: ds) ++ rest → (d0 :: ds).Nodup → ds.foldl max d0 - ds.foldl min d0 = ds.length →
    ∃ ρ', Dv.forM (lap C (.nm 2) body20) (rngD ((ds.length : Int) + 2) ((ns.length : Int) + 1)) [a, some (.v (.d (.tuple (ns.map .int)))), s2, s3, s4] = .ok (ρ', if scan (ds.foldl min d0) (ds.foldl max d0) rest = true then .nx else .rt (.d (.bool false)))
  | [], d0, ds, s2, s3, s4, e, _, _ => by
    have hl : ns.length = ds.length + 1 := by rw [e]; simp
    rw [rng_nil (by omega)]
    exact ⟨_, rfl⟩
  | x :: r, d0, ds, s2, s3, s4, e, nd, sp => by
    have hl : ns.length = ds.length + 2 + r.length := by rw [e]; simp; omega
    rw [rng_cons (by omega)]
    have ht := take_at e
    have ht : slcD (.tuple (ns.map .int)) none (some ((ds.length : Int) + 2)) = okd (.tuple (.int d0 :: (ds ++ [x]).map .int)) := by
      have z : (((d0 :: ds).length : Int) + 1) = (ds.length : Int) + 2 := by simp; omega
      rw [z] at ht
      exact ht
    have hls : bltD .lenset [.tuple (.int d0 :: (ds ++ [x]).map .int)] = okd (.int (dedI (d0 :: (ds ++ [x]))).length) := lenset_ints (l := d0 :: (ds ++ [x])) (by simp; omega)
    have hmin := min_ints d0 (ds ++ [x])
    have hmax := max_ints d0 (ds ++ [x])
    rw [List.foldl_append] at hmin hmax
    have hmin : bltD .min [.tuple (.int d0 :: (ds ++ [x]).map .int)] = okd (.int (min (ds.foldl min d0) x)) := hmin
    have hmax : bltD .max [.tuple (.int d0 :: (ds ++ [x]).map .int)] = okd (.int (max (ds.foldl max d0) x)) := hmax
    obtain ⟨lo1, lo2⟩ := fmin_le ds d0
    obtain ⟨hi1, hi2⟩ := fmax_le ds d0
    generalize hlo : ds.foldl min d0 = lo at *
    generalize hhi : ds.foldl max d0 = hi at *
    unfold Dv.forM
    by_cases h : x ≠ lo - 1 ∧ x ≠ hi + 1
    · have hs : scan lo hi (x :: r) = false := by
        show (if x ≠ lo - 1 ∧ x ≠ hi + 1 then false else _) = _
        rw [if_pos h]
      rw [hs]
      have hd : decide (max hi x - min lo x = (ds.length : Int) + 2 - 1) = false := decide_eq_false (by omega)
      refine ⟨[a, some (.v (.d (.tuple (ns.map .int)))), some (.v (.d (.int ((ds.length : Int) + 2)))), some (.v (.d (.tuple (.int d0 :: (ds ++ [x]).map .int)))), s4], ?_⟩
      cases hb : decide (((dedI (d0 :: (ds ++ [x]))).length : Int) < (ds.length : Int) + 2) with
      | true => simp only [lap, body20, asgD, ev_var, ev_rd, ev_con, ev_tup, ev_lst, ev_bin, ev_neg, ev_not, ev_and, ev_or, ev_cmp, ev_chain, ev_ite, ev_call, ev_blt, ev_isa, ev_mth, ev_idx, ev_slc, ev_rev, ev_mkw, ev_comp, es_set, es_own, es_asg, es_par, es_ifs, es_ret, es_retn, es_pass, es_cont, es_exp, es_frz, es_loopL, ss_nil, ss_cons, evalDs, evalVs, evalT, evalO, evalI, M.bind, getV, getR, rhoOf, Val.asD, asB, asI, pickK, okd, endM, List.set_cons_zero, List.set_cons_succ, List.getElem?_cons_zero, List.getElem?_cons_succ, ht, hls, cmp_lt, hb, if_true] <;> rfl
      | false => simp only [lap, body20, asgD, ev_var, ev_rd, ev_con, ev_tup, ev_lst, ev_bin, ev_neg, ev_not, ev_and, ev_or, ev_cmp, ev_chain, ev_ite, ev_call, ev_blt, ev_isa, ev_mth, ev_idx, ev_slc, ev_rev, ev_mkw, ev_comp, es_set, es_own, es_asg, es_par, es_ifs, es_ret, es_retn, es_pass, es_cont, es_exp, es_frz, es_loopL, ss_nil, ss_cons, evalDs, evalVs, evalT, evalO, evalI, M.bind, getV, getR, rhoOf, Val.asD, asB, asI, pickK, okd, endM, List.set_cons_zero, List.set_cons_succ, List.getElem?_cons_zero, List.getElem?_cons_succ, ht, hls, hmin, hmax, cmp_lt, cmp_ne, bin_sub, hb, hd, Bool.false_eq_true, if_false, if_true, Bool.not_false] <;> rfl
    · have hx : x = lo - 1 ∨ x = hi + 1 := by
        by_cases h1 : x = lo - 1
        · exact .inl h1
        · by_cases h2 : x = hi + 1
          · exact .inr h2
          · exact absurd ⟨h1, h2⟩ h
      have hnew : x ∉ d0 :: ds := fun z => by
        rcases List.mem_cons.mp z with rfl | z
        · omega
        · have := lo2 x z
          have := hi2 x z
          omega
      have nd2 : (d0 :: (ds ++ [x])).Nodup := by
        have z : (d0 :: (ds ++ [x])) = (d0 :: ds) ++ [x] := rfl
        rw [z, List.nodup_append]
        refine ⟨nd, by simp, fun a ha b hb e => ?_⟩
        have hbx : b = x := by simpa using hb
        subst e
        subst hbx
        exact hnew ha
      have hb : decide (((dedI (d0 :: (ds ++ [x]))).length : Int) < (ds.length : Int) + 2) = false := by
        rw [ded_nodup nd2]
        exact decide_eq_false (by simp; omega)
      have hd : decide (max hi x - min lo x = (ds.length : Int) + 2 - 1) = true := decide_eq_true (by omega)
      have hs : scan lo hi (x :: r) = scan (min lo x) (max hi x) r := by
        show (if x ≠ lo - 1 ∧ x ≠ hi + 1 then false else scan (if x < lo then x else lo) (if hi < x then x else hi) r) = _
        rw [if_neg h]
        congr 1
        · by_cases q : x < lo
          · rw [if_pos q]; omega
          · rw [if_neg q]; omega
        · by_cases q : hi < x
          · rw [if_pos q]; omega
          · rw [if_neg q]; omega
      obtain ⟨ρ', e2⟩ := loop20 C a ns hn r d0 (ds ++ [x]) (some (.v (.d (.int ((ds.length : Int) + 2))))) (some (.v (.d (.tuple (.int d0 :: (ds ++ [x]).map .int))))) s4 (by rw [e]; simp) nd2 (by
        rw [List.foldl_append, List.foldl_append, hlo, hhi]
        show max hi x - min lo x = _
        simp
        omega)
      rw [List.foldl_append, List.foldl_append, hlo, hhi] at e2
      have el : (((ds ++ [x]).length : Nat) : Int) + 2 = (ds.length : Int) + 2 + 1 := by simp; omega
      rw [el] at e2
      refine ⟨ρ', ?_⟩
      rw [hs]
      refine Eq.trans ?_ e2
      simp only [lap, body20, asgD, ev_var, ev_rd, ev_con, ev_tup, ev_lst, ev_bin, ev_neg, ev_not, ev_and, ev_or, ev_cmp, ev_chain, ev_ite, ev_call, ev_blt, ev_isa, ev_mth, ev_idx, ev_slc, ev_rev, ev_mkw, ev_comp, es_set, es_own, es_asg, es_par, es_ifs, es_ret, es_retn, es_pass, es_cont, es_exp, es_frz, es_loopL, ss_nil, ss_cons, evalDs, evalVs, evalT, evalO, evalI, M.bind, getV, getR, rhoOf, Val.asD, asB, asI, pickK, okd, endM, List.set_cons_zero, List.set_cons_succ, List.getElem?_cons_zero, List.getElem?_cons_succ, ht, hls, hmin, hmax, cmp_lt, cmp_ne, bin_sub, hb, hd, Bool.false_eq_true, if_false, if_true, Bool.not_true] <;> rfl
theorem compM_filter {f : D → M (Option D)} {p : D → Bool} {y : D} : ∀ {xs : List D}, (∀ x ∈ xs, f x = .ok (if p x = true then some y else none)) → compM f xs = .ok (List.replicate (xs.countP p) y)
  | [], _ => rfl
  | x :: xs, h => by
    unfold compM
    rw [h x List.mem_cons_self, compM_filter fun y hy => h y (List.mem_cons_of_mem _ hy), List.countP_cons]
    cases hp : p x with
    | true => rfl
    | false => rfl
theorem plain_rep : ∀ k : Nat, PyData.plainAll (List.replicate k (.int 1)) = true
  | 0 => by simp [PyData.plainAll]
  | k + 1 => by
    rw [List.replicate_succ]
    simp [PyData.plainAll, PyData.plain, plain_rep k]
theorem lim0 : lim 0 = true := rfl
theorem ne_nil (k : Nat) : cmpD .NotEq (.list (List.replicate k (.int 1))) (.list []) = okd (.bool (!decide (k = 0))) := by
  have hp : plain2 (.list (List.replicate k (.int 1))) (.list []) = true := by
    unfold plain2
    have h1 : (PyData.list (List.replicate k (.int 1))).plain = true := by
      unfold PyData.plain
      exact plain_rep k
    have h2 : (PyData.list []).plain = true := by
      unfold PyData.plain
      simp [PyData.plainAll]
    rw [h1, h2]
    have h3 : Nat.ble (PyData.list []).depth 64 = true := by
      simp [PyData.depth, PyData.depthAll]
    rw [h3, Bool.or_true]
    rfl
  have he : PyData.eqv (.list (List.replicate k (.int 1))) (.list []) = decide (k = 0) := by
    cases k with
    | zero => simp [PyData.eqv, PyData.eqvAll]
    | succ k =>
      rw [List.replicate_succ]
      simp [PyData.eqv, PyData.eqvAll]
  show gd (plain2 _ _) (.bool (!PyData.eqv _ _)) = _
  rw [hp, he]
  rfl
section
variable {T : Tab} (hT : HasT T) (n : Nat)
include hT
theorem f20 {top : Int} (h0 : 0 ≤ top) (h6 : top ≤ 6) (v : D) : callN T (n + 1) 20 [.d (.int top), .d v] = okd (.bool (isWishV top v)) := by
  rw [call_fn hT.t20 rfl]
  cases v with
  | tuple xs =>
    by_cases hl : (xs.length : Int) = top + 1
    · have hlen : bltD .len [.tuple xs] = okd (.int xs.length) := rfl
      have hd : decide ((xs.length : Int) = top + 1) = true := decide_eq_true hl
      have comp : compM (turn (callN T n) (.con (.int 1)) (.nm 4) (.cons (.or_ (.not_ (.isa (.var 4) .int)) (.or_ (.isa (.var 4) .bool) (.not_ (.chain .LtE .LtE (.con (.int 0)) (.var 4) (.var 0))))) .nil) [4] [some (.v (.d (.int top))), some (.v (.d (.tuple xs))), none, none, none]) xs = .ok (List.replicate (xs.countP fun x => !inR 0 top x) (.int 1)) := by
        refine compM_filter fun x hx => ?_
        cases x with
        | int i =>
          by_cases h1 : 0 ≤ i <;> by_cases h2 : i ≤ top <;> simp [turn, asgD, wipeD, ev_var, ev_rd, ev_con, ev_tup, ev_lst, ev_bin, ev_neg, ev_not, ev_and, ev_or, ev_cmp, ev_chain, ev_ite, ev_call, ev_blt, ev_isa, ev_mth, ev_idx, ev_slc, ev_rev, ev_mkw, ev_comp, es_set, es_own, es_asg, es_par, es_ifs, es_ret, es_retn, es_pass, es_cont, es_exp, es_frz, es_loopL, ss_nil, ss_cons, evalDs, evalVs, evalT, evalO, evalI, M.bind, getV, getR, rhoOf, Val.asD, asB, asI, pickK, okd, endM, isaD, cmp_le, inR, h1, h2]
        | _ => simp [turn, asgD, wipeD, ev_var, ev_rd, ev_con, ev_tup, ev_lst, ev_bin, ev_neg, ev_not, ev_and, ev_or, ev_cmp, ev_chain, ev_ite, ev_call, ev_blt, ev_isa, ev_mth, ev_idx, ev_slc, ev_rev, ev_mkw, ev_comp, es_set, es_own, es_asg, es_par, es_ifs, es_ret, es_retn, es_pass, es_cont, es_exp, es_frz, es_loopL, ss_nil, ss_cons, evalDs, evalVs, evalT, evalO, evalI, M.bind, getV, getR, rhoOf, Val.asD, asB, asI, pickK, okd, endM, isaD, inR]
      have hc : xs.countP (fun x => !inR 0 top x) ≤ xs.length := List.countP_le_length
      have hlim : lim xs.length = true := lim_small (by omega)
      cases ha : xs.all (inR 0 top) with
      | false =>
        have hw : isWishV top (.tuple xs) = false := by
          show (_ && (xs.all (inR 0 top) && _)) = false
          rw [ha, Bool.false_and, Bool.and_false]
        have hk : decide (xs.countP (fun x => !inR 0 top x) = 0) = false := decide_eq_false fun z => by
          rw [List.countP_eq_zero] at z
          have : xs.all (inR 0 top) = true := List.all_eq_true.mpr fun x hx => by
            have := z x hx
            simpa using this
          rw [this] at ha
          cases ha
        generalize xs.countP (fun x => !inR 0 top x) = c at comp hk
        have hk : c ≠ 0 := of_decide_eq_false hk
        simp [b20, ev_var, ev_rd, ev_con, ev_tup, ev_lst, ev_bin, ev_neg, ev_not, ev_and, ev_or, ev_cmp, ev_chain, ev_ite, ev_call, ev_blt, ev_isa, ev_mth, ev_idx, ev_slc, ev_rev, ev_mkw, ev_comp, es_set, es_own, es_asg, es_par, es_ifs, es_ret, es_retn, es_pass, es_cont, es_exp, es_frz, es_loopL, ss_nil, ss_cons, evalDs, evalVs, evalT, evalO, evalI, M.bind, getV, getR, rhoOf, Val.asD, asB, asI, pickK, okd, endM, isaD, bin_add, hlen, cmp_ne, hd, iterD, comp, M.quiet, gd, hlim, ne_nil, hk, hw, lim0]
      | true =>
        have hk : decide (xs.countP (fun x => !inR 0 top x) = 0) = true := decide_eq_true (List.countP_eq_zero.mpr fun x hx => by
          have := List.all_eq_true.mp ha x hx
          simp [this])
        obtain ⟨ns, en, ei⟩ := ints_inR ha
        cases ns with
        | nil =>
          rw [en] at hl
          have z : (0 : Int) = top + 1 := hl
          omega
        | cons x r =>
          have hw : isWishV top (.tuple xs) = scan x x r := by
            show (decide ((xs.length : Int) = top + 1) && (xs.all (inR 0 top) && (match intsOf xs with | some (x :: r) => scan x x r | _ => false))) = _
            rw [ha, decide_eq_true hl, ei]
            simp
          have e20 : (xs.length : Int) = (r.length : Int) + 1 := by
            rw [en]
            simp
          obtain ⟨ρ', e⟩ := loop20 (callN T n) (some (.v (.d (.int top)))) (x :: r) (by
            have : ((x :: r).length : Int) = top + 1 := by rw [← hl, en]; simp
            omega) r x [] (some (.v (.d (.int 1)))) (some (.v (.d (.tuple [.int x])))) none rfl (by simp) (by simp)
          have first : lap (callN T n) (.nm 2) body20 (.int 1) [some (.v (.d (.int top))), some (.v (.d (.tuple xs))), none, none, none] = .ok ([some (.v (.d (.int top))), some (.v (.d (.tuple xs))), some (.v (.d (.int 1))), some (.v (.d (.tuple [.int x]))), none], .nx) := by
            have s1 : slcD (.tuple xs) none (some 1) = okd (.tuple [.int x]) := by
              have z := take_at (ns := x :: r) (done := []) (r := r) (x := x) rfl
              rw [en]
              exact z
            have s2 : bltD .lenset [.tuple [.int x]] = okd (.int 1) := lenset_ints (l := [x]) (by show 1 ≤ 60; decide)
            have s3 : bltD .min [.tuple [.int x]] = okd (.int x) := min_ints x []
            have s4 : bltD .max [.tuple [.int x]] = okd (.int x) := max_ints x []
            simp [lap, body20, asgD, ev_var, ev_rd, ev_con, ev_tup, ev_lst, ev_bin, ev_neg, ev_not, ev_and, ev_or, ev_cmp, ev_chain, ev_ite, ev_call, ev_blt, ev_isa, ev_mth, ev_idx, ev_slc, ev_rev, ev_mkw, ev_comp, es_set, es_own, es_asg, es_par, es_ifs, es_ret, es_retn, es_pass, es_cont, es_exp, es_frz, es_loopL, ss_nil, ss_cons, evalDs, evalVs, evalT, evalO, evalI, M.bind, getV, getR, rhoOf, Val.asD, asB, asI, pickK, okd, endM, s1, s2, s3, s4, cmp_lt, cmp_ne, bin_sub]
          have hr : rngD 1 (top + 2) = .int 1 :: rngD 2 (top + 2) := rng_cons (by omega)
          have ee : ((x :: r).length : Int) + 1 = top + 2 := by
            have : ((x :: r).length : Int) = top + 1 := by rw [← hl, en]; simp
            omega
          have e : Dv.forM (lap (callN T n) (.nm 2) body20) (rngD 2 (top + 2)) [some (.v (.d (.int top))), some (.v (.d (.tuple xs))), some (.v (.d (.int 1))), some (.v (.d (.tuple [.int x]))), none] = .ok (ρ', if scan x x r = true then .nx else .rt (.d (.bool false))) := by
            rw [ee, ← en] at e
            exact e
          have whole : Dv.forM (lap (callN T n) (.nm 2) body20) (rngD 1 (top + 2)) [some (.v (.d (.int top))), some (.v (.d (.tuple xs))), none, none, none] = .ok (ρ', if scan x x r = true then .nx else .rt (.d (.bool false))) := by
            rw [hr]
            unfold Dv.forM
            rw [first]
            exact e
          have hr1 : (-4611686018427387904 : Int) ≤ top + 2 := by omega
          have hr2 : top + 2 < (4611686018427387904 : Int) := by omega
          have hb20 : b20 = .cons (.ifs (.or_ (.not_ (.isa (.var 1) .tuple)) (.cmp .NotEq (.blt .len (.cons (.var 1) .nil)) (.bin .Add (.var 0) (.con (.int 1))))) (.cons (.ret (.con (.bool false))) .nil) .nil) (.cons (.ifs (.cmp .NotEq (.comp (.con (.int 1)) (.nm 4) (.seq (.var 1)) (.cons (.or_ (.not_ (.isa (.var 4) .int)) (.or_ (.isa (.var 4) .bool) (.not_ (.chain .LtE .LtE (.con (.int 0)) (.var 4) (.var 0))))) .nil) [4]) (.lst .nil)) (.cons (.ret (.con (.bool false))) .nil) .nil) (.cons (.loop (.nm 2) (.rng2 (.con (.int 1)) (.bin .Add (.var 0) (.con (.int 2)))) body20) (.cons (.ret (.con (.bool true))) .nil))) := rfl
          rw [hw]
          generalize xs.countP (fun x => !inR 0 top x) = c at comp hk
          have hk : c = 0 := of_decide_eq_true hk
          subst hk
          have nn : cmpD .NotEq (.list []) (.list []) = okd (.bool false) := ne_nil 0
          cases hs : scan x x r with
          | true =>
            rw [hs, if_pos rfl] at whole
            simp [hb20, ev_var, ev_rd, ev_con, ev_tup, ev_lst, ev_bin, ev_neg, ev_not, ev_and, ev_or, ev_cmp, ev_chain, ev_ite, ev_call, ev_blt, ev_isa, ev_mth, ev_idx, ev_slc, ev_rev, ev_mkw, ev_comp, es_set, es_own, es_asg, es_par, es_ifs, es_ret, es_retn, es_pass, es_cont, es_exp, es_frz, es_loopL, ss_nil, ss_cons, evalDs, evalVs, evalT, evalO, evalI, M.bind, getV, getR, rhoOf, Val.asD, asB, asI, pickK, okd, endM, isaD, bin_add, hlen, cmp_ne, hd, iterD, comp, M.quiet, gd, hlim, nn, lim0, hr1, hr2, whole]
            done
          | false =>
            rw [hs, if_neg Bool.false_ne_true] at whole
            simp [hb20, ev_var, ev_rd, ev_con, ev_tup, ev_lst, ev_bin, ev_neg, ev_not, ev_and, ev_or, ev_cmp, ev_chain, ev_ite, ev_call, ev_blt, ev_isa, ev_mth, ev_idx, ev_slc, ev_rev, ev_mkw, ev_comp, es_set, es_own, es_asg, es_par, es_ifs, es_ret, es_retn, es_pass, es_cont, es_exp, es_frz, es_loopL, ss_nil, ss_cons, evalDs, evalVs, evalT, evalO, evalI, M.bind, getV, getR, rhoOf, Val.asD, asB, asI, pickK, okd, endM, isaD, bin_add, hlen, cmp_ne, hd, iterD, comp, M.quiet, gd, hlim, nn, lim0, hr1, hr2, whole]
            done
    · have hlen : bltD .len [.tuple xs] = okd (.int xs.length) := rfl
      have hd : decide ((xs.length : Int) = top + 1) = false := decide_eq_false hl
      have hw : isWishV top (.tuple xs) = false := by
        show (decide ((xs.length : Int) = top + 1) && _) = false
        rw [hd]
        rfl
      simp [b20, ev_var, ev_rd, ev_con, ev_tup, ev_lst, ev_bin, ev_neg, ev_not, ev_and, ev_or, ev_cmp, ev_chain, ev_ite, ev_call, ev_blt, ev_isa, ev_mth, ev_idx, ev_slc, ev_rev, ev_mkw, ev_comp, es_set, es_own, es_asg, es_par, es_ifs, es_ret, es_retn, es_pass, es_cont, es_exp, es_frz, es_loopL, ss_nil, ss_cons, evalDs, evalVs, evalT, evalO, evalI, M.bind, getV, getR, rhoOf, Val.asD, asB, asI, pickK, okd, endM, isaD, bin_add, hlen, cmp_ne, hd, hw]
  | _ => simp [b20, ev_var, ev_rd, ev_con, ev_tup, ev_lst, ev_bin, ev_neg, ev_not, ev_and, ev_or, ev_cmp, ev_chain, ev_ite, ev_call, ev_blt, ev_isa, ev_mth, ev_idx, ev_slc, ev_rev, ev_mkw, ev_comp, es_set, es_own, es_asg, es_par, es_ifs, es_ret, es_retn, es_pass, es_cont, es_exp, es_frz, es_loopL, ss_nil, ss_cons, evalDs, evalVs, evalT, evalO, evalI, M.bind, getV, getR, rhoOf, Val.asD, asB, asI, pickK, okd, endM, isaD, isWishV]
end
end DvK
end
section
namespace DvK
open PySem L2 Dv
def wishL : List ((Int × Int) × List (List Int)) := [((1, 0), [[0, 1]]),
  ((1, 1), [[1, 0]]),
  ((2, 0), [[0, 1, 2]]),
  ((2, 1), [[1, 0, 2], [1, 2, 0]]),
  ((2, 2), [[2, 1, 0]]),
  ((3, 0), [[0, 1, 2, 3]]),
  ((3, 1), [[1, 0, 2, 3], [1, 2, 0, 3], [1, 2, 3, 0]]),
  ((3, 2), [[2, 1, 0, 3], [2, 1, 3, 0], [2, 3, 1, 0]]),
  ((3, 3), [[3, 2, 1, 0]]),
  ((4, 0), [[0, 1, 2, 3, 4]]),
  ((4, 1), [[1, 0, 2, 3, 4], [1, 2, 0, 3, 4], [1, 2, 3, 0, 4], [1, 2, 3, 4, 0]]),
  ((4, 2), [[2, 1, 0, 3, 4], [2, 1, 3, 0, 4], [2, 1, 3, 4, 0], [2, 3, 1, 0, 4], [2, 3, 1, 4, 0], [2, 3, 4, 1, 0]]),
  ((4, 3), [[3, 2, 1, 0, 4], [3, 2, 1, 4, 0], [3, 2, 4, 1, 0], [3, 4, 2, 1, 0]]),
  ((4, 4), [[4, 3, 2, 1, 0]]),
  ((5, 0), [[0, 1, 2, 3, 4, 5]]),
  ((5, 1), [[1, 0, 2, 3, 4, 5], [1, 2, 0, 3, 4, 5], [1, 2, 3, 0, 4, 5], [1, 2, 3, 4, 0, 5], [1, 2, 3, 4, 5, 0]]),
  ((5, 2), [[2, 1, 0, 3, 4, 5], [2, 1, 3, 0, 4, 5], [2, 1, 3, 4, 0, 5], [2, 1, 3, 4, 5, 0], [2, 3, 1, 0, 4, 5], [2, 3, 1, 4, 0, 5], [2, 3, 1, 4, 5, 0], [2, 3, 4, 1, 0, 5], [2, 3, 4, 1, 5, 0], [2, 3, 4, 5, 1, 0]]),
  ((5, 3), [[3, 2, 1, 0, 4, 5], [3, 2, 1, 4, 0, 5], [3, 2, 1, 4, 5, 0], [3, 2, 4, 1, 0, 5], [3, 2, 4, 1, 5, 0], [3, 2, 4, 5, 1, 0], [3, 4, 2, 1, 0, 5], [3, 4, 2, 1, 5, 0], [3, 4, 2, 5, 1, 0], [3, 4, 5, 2, 1, 0]]),
  ((5, 4), [[4, 3, 2, 1, 0, 5], [4, 3, 2, 1, 5, 0], [4, 3, 2, 5, 1, 0], [4, 3, 5, 2, 1, 0], [4, 5, 3, 2, 1, 0]]),
  ((5, 5), [[5, 4, 3, 2, 1, 0]]),
  ((6, 0), [[0, 1, 2, 3, 4, 5, 6]]),
  ((6, 1), [[1, 0, 2, 3, 4, 5, 6], [1, 2, 0, 3, 4, 5, 6], [1, 2, 3, 0, 4, 5, 6], [1, 2, 3, 4, 0, 5, 6], [1, 2, 3, 4, 5, 0, 6], [1, 2, 3, 4, 5, 6, 0]]),
  ((6, 2), [[2, 1, 0, 3, 4, 5, 6], [2, 1, 3, 0, 4, 5, 6], [2, 1, 3, 4, 0, 5, 6], [2, 1, 3, 4, 5, 0, 6], [2, 1, 3, 4, 5, 6, 0], [2, 3, 1, 0, 4, 5, 6], [2, 3, 1, 4, 0, 5, 6], [2, 3, 1, 4, 5, 0, 6], [2, 3, 1, 4, 5, 6, 0], [2, 3, 4, 1, 0, 5, 6], [2, 3, 4, 1, 5, 0, 6], [2, 3, 4, 1, 5, 6, 0], [2, 3, 4, 5, 1, 0, 6], [2, 3, 4, 5, 1, 6, 0], [2, 3, 4, 5, 6, 1, 0]]),
  ((6, 3), [[3, 2, 1, 0, 4, 5, 6], [3, 2, 1, 4, 0, 5, 6], [3, 2, 1, 4, 5, 0, 6], [3, 2, 1, 4, 5, 6, 0], [3, 2, 4, 1, 0, 5, 6], [3, 2, 4, 1, 5, 0, 6], [3, 2, 4, 1, 5, 6, 0], [3, 2, 4, 5, 1, 0, 6], [3, 2, 4, 5, 1, 6, 0], [3, 2, 4, 5, 6, 1, 0], [3, 4, 2, 1, 0, 5, 6], [3, 4, 2, 1, 5, 0, 6], [3, 4, 2, 1, 5, 6, 0], [3, 4, 2, 5, 1, 0, 6], [3, 4, 2, 5, 1, 6, 0], [3, 4, 2, 5, 6, 1, 0], [3, 4, 5, 2, 1, 0, 6], [3, 4, 5, 2, 1, 6, 0], [3, 4, 5, 2, 6, 1, 0], [3, 4, 5, 6, 2, 1, 0]]),
  ((6, 4), [[4, 3, 2, 1, 0, 5, 6], [4, 3, 2, 1, 5, 0, 6], [4, 3, 2, 1, 5, 6, 0], [4, 3, 2, 5, 1, 0, 6], [4, 3, 2, 5, 1, 6, 0], [4, 3, 2, 5, 6, 1, 0], [4, 3, 5, 2, 1, 0, 6], [4, 3, 5, 2, 1, 6, 0], [4, 3, 5, 2, 6, 1, 0], [4, 3, 5, 6, 2, 1, 0], [4, 5, 3, 2, 1, 0, 6], [4, 5, 3, 2, 1, 6, 0], [4, 5, 3, 2, 6, 1, 0], [4, 5, 3, 6, 2, 1, 0], [4, 5, 6, 3, 2, 1, 0]]),
  ((6, 5), [[5, 4, 3, 2, 1, 0, 6], [5, 4, 3, 2, 1, 6, 0], [5, 4, 3, 2, 6, 1, 0], [5, 4, 3, 6, 2, 1, 0], [5, 4, 6, 3, 2, 1, 0], [5, 6, 4, 3, 2, 1, 0]]),
  ((6, 6), [[6, 5, 4, 3, 2, 1, 0]])]
def wishTab (tp : Int × Int) : List D := match wishL.lookup tp with
  | some l => l.map fun w => .tuple (w.map .int)
  | none => []
def pairs : List (Int × Int) := [(1,0),(1,1),(2,0),(2,1),(2,2),(3,0),(3,1),(3,2),(3,3),(4,0),(4,1),(4,2),(4,3),(4,4),(5,0),(5,1),(5,2),(5,3),(5,4),(5,5),(6,0),(6,1),(6,2),(6,3),(6,4),(6,5),(6,6)]
theorem w9 (C : CallT) : pairs.map (fun tp => (evalSs C b9 (rhoOf 6 [.d (.int tp.1), .d (.int tp.2)])).bind endM) = pairs.map fun tp => okd (.list (wishTab tp)) := by kernel_rfl
theorem w21 (C : CallT) : pairs.map (fun tp => (evalSs C b21 (rhoOf 7 [.d (.int tp.1), .d (.int tp.2)])).bind endM) = pairs.map fun tp => okd (.list (wishTab tp)) := by kernel_rfl
end DvK
end
section
namespace DvK
open PySem L2 Dv
def okInt : M Val → Bool
  | .ok (.d (.int _)) => true
  | _ => false
def reprOk (d : D) : Bool := d.showable && !d.hasDict && Nat.ble d.depth 64 && lim d.shown.length
def isTup : D → Bool
  | .tuple _ => true
  | _ => false
def chkW (tp : Int × Int) : Bool := Nat.blt 0 (wishTab tp).length && (Nat.ble (wishTab tp).length 100 && ((wishTab tp).all fun w => isWishV tp.1 w && ((List.range (tp.1.toNat + 1)).all fun (a : Nat) => okInt (mthD .index w [.int (a : Int)]))))
theorem chk1 : pairs.all chkW = true := by kernel_rfl
def reprB (d : D) : Bool := d.showable && !d.hasDict && Nat.ble d.depth 64 && (d.leavesShort 13 && Nat.ble d.weight 1048576)
theorem repr_of {d : D} (h : reprB d = true) : reprOk d = true := by
  unfold reprB at h
  obtain ⟨h1, h2⟩ := ba h
  obtain ⟨h3, h4⟩ := ba h2
  unfold reprOk
  rw [h1, Bool.true_and]
  refine Nat.ble_eq_true_of_le ?_
  have z := PyData.shown_fits (B := 13) (by decide) (by decide) h3 (by
    have := Nat.le_of_ble_eq_true h4
    rw [show (2 : Nat) ^ 20 = 1048576 by decide]
    exact this)
  rw [sizeLine_eq] at z
  exact z
def chkR (tp : Int × Int) : Bool := reprB (.list [.tuple (wishTab tp), .tuple (wishTab tp)]) && ((wishTab tp).all fun w => reprB (.list [w, w]))
theorem chk2 : pairs.all chkR = true := by kernel_rfl
theorem rep_none : reprOk (.list [.none, .none]) = true := repr_of (by kernel_rfl)
theorem rep_bool (b : Bool) : reprOk (.bool b) = true := repr_of (by cases b <;> kernel_rfl)
theorem rep_bools (b : Bool) : reprOk (.list [.bool b, .bool b]) = true := repr_of (by cases b <;> kernel_rfl)
end DvK
end
section
namespace DvK
open PySem L2 Dv
theorem map_at {α β : Type} {f g : α → β} : ∀ {l : List α}, l.map f = l.map g → ∀ x ∈ l, f x = g x
  | [], _, _, h => nomatch h
  | y :: l, e, x, h => by
    rw [List.map_cons, List.map_cons, List.cons.injEq] at e
    rcases List.mem_cons.mp h with rfl | h
    · exact e.1
    · exact map_at e.2 x h
theorem pairs_mem {t p : Int} (h1 : 1 ≤ t) (h2 : t ≤ 6) (h3 : 0 ≤ p) (h4 : p ≤ t) : (t, p) ∈ pairs := by
  have ht : t = 1 ∨ t = 2 ∨ t = 3 ∨ t = 4 ∨ t = 5 ∨ t = 6 := by omega
  have hp : p = 0 ∨ p = 1 ∨ p = 2 ∨ p = 3 ∨ p = 4 ∨ p = 5 ∨ p = 6 := by omega
  rcases ht with rfl | rfl | rfl | rfl | rfl | rfl <;> rcases hp with rfl | rfl | rfl | rfl | rfl | rfl | rfl <;> first | decide | omega
theorem inR_int {lo hi i : Int} (h1 : lo ≤ i) (h2 : i ≤ hi) : inR lo hi (.int i) = true := by
  show (decide (lo ≤ i) && decide (i ≤ hi)) = true
  rw [decide_eq_true h1, decide_eq_true h2]
  rfl
theorem repr_ok {d : D} (h : reprOk d = true) : bltD .repr [d] = okd (.str d.shown) := by
  show gd (d.showable && !d.hasDict && Nat.ble d.depth 64 && lim d.shown.length) (.str d.shown) = _
  have h : (d.showable && !d.hasDict && Nat.ble d.depth 64 && lim d.shown.length) = true := h
  rw [h]
  rfl
theorem str_eq (x : Str) : cmpD .Eq (.str x) (.str x) = okd (.bool true) := by
  have e : PyData.eqv (.str x) (.str x) = true := by
    unfold PyData.eqv
    simp
  show gd (plain2 (.str x) (.str x)) (.bool (PyData.eqv (.str x) (.str x))) = _
  rw [e]
  rfl
section
variable {T : Tab} (hT : HasT T) (n : Nat)
include hT
theorem f19 {x : D} (h : reprOk x = true) : callN T (n + 1) 19 [.d x, .d x] = okd (.bool true) := by
  rw [call_fn hT.t19 rfl]
  simp [b19, ev_var, ev_rd, ev_con, ev_tup, ev_lst, ev_bin, ev_neg, ev_not, ev_and, ev_or, ev_cmp, ev_chain, ev_ite, ev_call, ev_blt, ev_isa, ev_mth, ev_idx, ev_slc, ev_rev, ev_mkw, ev_comp, es_set, es_own, es_asg, es_par, es_ifs, es_ret, es_retn, es_pass, es_cont, es_exp, es_frz, es_loopL, ss_nil, ss_cons, evalDs, evalVs, evalT, evalO, evalI, M.bind, getV, getR, rhoOf, Val.asD, asB, asI, pickK, okd, endM, repr_ok h, str_eq]
theorem f9 {tp : Int × Int} (h : tp ∈ pairs) : callN T (n + 1) 9 [.d (.int tp.1), .d (.int tp.2)] = okd (.list (wishTab tp)) := by
  rw [call_fn hT.t9 rfl]
  exact map_at (w9 (callN T n)) tp h
theorem f21 {tp : Int × Int} (h : tp ∈ pairs) : callN T (n + 1) 21 [.d (.int tp.1), .d (.int tp.2)] = okd (.list (wishTab tp)) := by
  rw [call_fn hT.t21 rfl]
  exact map_at (w21 (callN T n)) tp h
theorem f12 {top : Int} (h1 : 1 ≤ top) (h6 : top ≤ 6) (v : D) : callN T (n + 5) 12 [.d (.int top), .d v] = okd (.bool (isWishV top v)) := by
  rw [call_fn hT.t12 rfl]
  have c6 := f6 hT n (top := top) (inR_int h1 h6)
  have c8 := f8 hT n (top := top) (by omega) h6 v
  simp [b12, ev_var, ev_rd, ev_con, ev_tup, ev_lst, ev_bin, ev_neg, ev_not, ev_and, ev_or, ev_cmp, ev_chain, ev_ite, ev_call, ev_blt, ev_isa, ev_mth, ev_idx, ev_slc, ev_rev, ev_mkw, ev_comp, es_set, es_own, es_asg, es_par, es_ifs, es_ret, es_retn, es_pass, es_cont, es_exp, es_frz, es_loopL, ss_nil, ss_cons, evalDs, evalVs, evalT, evalO, evalI, M.bind, getV, getR, rhoOf, Val.asD, asB, asI, pickK, okd, endM, c6, c8]
theorem f13 {tp : Int × Int} (h : tp ∈ pairs) (h1 : 1 ≤ tp.1) (h6 : tp.1 ≤ 6) (h2 : 0 ≤ tp.2) (h3 : tp.2 ≤ tp.1) : callN T (n + 5) 13 [.d (.int tp.1), .d (.int tp.2)] = okd (.tuple (wishTab tp)) := by
  rw [call_fn hT.t13 rfl]
  have c6 := f6 hT n (top := tp.1) (inR_int h1 h6)
  have c7 := f7 hT n (v := .int tp.2) (top := tp.1) (inR_int h2 h3)
  have c9 := f9 hT (n + 3) h
  have s : bltD .tuple [.list (wishTab tp)] = okd (.tuple (wishTab tp)) := rfl
  simp [b13, ev_var, ev_rd, ev_con, ev_tup, ev_lst, ev_bin, ev_neg, ev_not, ev_and, ev_or, ev_cmp, ev_chain, ev_ite, ev_call, ev_blt, ev_isa, ev_mth, ev_idx, ev_slc, ev_rev, ev_mkw, ev_comp, es_set, es_own, es_asg, es_par, es_ifs, es_ret, es_retn, es_pass, es_cont, es_exp, es_frz, es_loopL, ss_nil, ss_cons, evalDs, evalVs, evalT, evalO, evalI, M.bind, getV, getR, rhoOf, Val.asD, asB, asI, pickK, okd, endM, c6, c7, c9, s]
omit hT in
/-- the place of a level in a wish -/
def ixOf (w : D) (a : Int) : Int := match mthD .index w [.int a] with
  | .ok (.d (.int i)) => i
  | _ => 0
omit hT in
theorem ix_ok {tp : Int × Int} (h : tp ∈ pairs) {w : D} (hw : w ∈ wishTab tp) {a : Int} (h1 : 0 ≤ a) (h2 : a ≤ tp.1) : mthD .index w [.int a] = okd (.int (ixOf w a)) ∧ isWishV tp.1 w = true := by
  have c := List.all_eq_true.mp chk1 tp h
  obtain ⟨_, c⟩ := ba c
  obtain ⟨_, c⟩ := ba c
  obtain ⟨c1, c2⟩ := ba (List.all_eq_true.mp c w hw)
  have hm : a.toNat ∈ List.range (tp.1.toNat + 1) := List.mem_range.mpr (by omega)
  have c3 : okInt (mthD .index w [.int ((a.toNat : Nat) : Int)]) = true := List.all_eq_true.mp c2 a.toNat hm
  rw [show ((a.toNat : Nat) : Int) = a by omega] at c3
  refine ⟨?_, c1⟩
  unfold ixOf
  generalize mthD .index w [.int a] = m at c3
  unfold okInt at c3
  split at c3
  · rfl
  · cases c3
theorem f10 {tp : Int × Int} (h : tp ∈ pairs) {w : D} (hw : w ∈ wishTab tp) {a b : Int} (a1 : 0 ≤ a) (a2 : a ≤ tp.1) (b1 : 0 ≤ b) (b2 : b ≤ tp.1) : callN T (n + 1) 10 [.d w, .d (.int a), .d (.int b)] = okd (.bool (decide (ixOf w a < ixOf w b))) := by
  rw [call_fn hT.t10 rfl]
  have e1 := (ix_ok h hw a1 a2).1
  have e2 := (ix_ok h hw b1 b2).1
  simp [b10, ev_var, ev_rd, ev_con, ev_tup, ev_lst, ev_bin, ev_neg, ev_not, ev_and, ev_or, ev_cmp, ev_chain, ev_ite, ev_call, ev_blt, ev_isa, ev_mth, ev_idx, ev_slc, ev_rev, ev_mkw, ev_comp, es_set, es_own, es_asg, es_par, es_ifs, es_ret, es_retn, es_pass, es_cont, es_exp, es_frz, es_loopL, ss_nil, ss_cons, evalDs, evalVs, evalT, evalO, evalI, M.bind, getV, getR, rhoOf, Val.asD, asB, asI, pickK, okd, endM, e1, e2, cmp_lt]
omit hT in
theorem find_loop {C : CallT} {p : D → Bool} {a b c d : Option Slot} : ∀ {xs : List D} {e : Option Slot}, (∀ x ∈ xs, ∀ e, lap C (.nm 4) (.cons (.ifs (.call 10 (.cons (.var 4) (.cons (.var 2) (.cons (.var 3) .nil))) [0, 1, 2]) (.cons (.ret (.var 4)) .nil) .nil) .nil) x [a, b, c, d, e] = .ok ([a, b, c, d, some (.v (.d x))], if p x = true then .rt (.d x) else .nx)) →
    ∃ ρ', Dv.forM (lap C (.nm 4) (.cons (.ifs (.call 10 (.cons (.var 4) (.cons (.var 2) (.cons (.var 3) .nil))) [0, 1, 2]) (.cons (.ret (.var 4)) .nil) .nil) .nil)) xs [a, b, c, d, e] = .ok (ρ', match xs.find? p with | some x => .rt (.d x) | none => .nx)
  | [], e, _ => ⟨_, rfl⟩
  | x :: xs, e, h => by
    unfold Dv.forM
    rw [h x List.mem_cons_self e, List.find?_cons]
    cases hp : p x with
    | true => exact ⟨_, rfl⟩
    | false =>
      obtain ⟨ρ', z⟩ := find_loop (xs := xs) (e := some (.v (.d x))) fun y hy => h y (List.mem_cons_of_mem _ hy)
      exact ⟨ρ', z⟩
/-- the first wish with the one ahead of the other -/
def firstW (tp : Int × Int) (a b : Int) : D := match (wishTab tp).find? (fun w => decide (ixOf w a < ixOf w b)) with
  | some w => w
  | none => .none
theorem f11 {tp : Int × Int} (h : tp ∈ pairs) {a b : Int} (a1 : 0 ≤ a) (a2 : a ≤ tp.1) (b1 : 0 ≤ b) (b2 : b ≤ tp.1) : callN T (n + 2) 11 [.d (.int tp.1), .d (.int tp.2), .d (.int a), .d (.int b)] = okd (firstW tp a b) := by
  rw [call_fn hT.t11 rfl]
  have c9 := f9 hT n h
  obtain ⟨ρ', e⟩ := find_loop (C := callN T (n + 1)) (p := fun w => decide (ixOf w a < ixOf w b)) (a := some (.v (.d (.int tp.1)))) (b := some (.v (.d (.int tp.2)))) (c := some (.v (.d (.int a)))) (d := some (.v (.d (.int b)))) (xs := wishTab tp) (e := none) fun w hw s => by
    have c10 := f10 hT n h hw a1 a2 b1 b2
    simp only [lap, asgD, ev_var, ev_rd, ev_con, ev_tup, ev_lst, ev_bin, ev_neg, ev_not, ev_and, ev_or, ev_cmp, ev_chain, ev_ite, ev_call, ev_blt, ev_isa, ev_mth, ev_idx, ev_slc, ev_rev, ev_mkw, ev_comp, es_set, es_own, es_asg, es_par, es_ifs, es_ret, es_retn, es_pass, es_cont, es_exp, es_frz, es_loopL, ss_nil, ss_cons, evalDs, evalVs, evalT, evalO, evalI, M.bind, getV, getR, rhoOf, Val.asD, asB, asI, pickK, okd, endM, List.set_cons_zero, List.set_cons_succ, List.getElem?_cons_zero, List.getElem?_cons_succ, c10]
    cases decide (ixOf w a < ixOf w b) <;> rfl
  unfold firstW
  cases hf : (wishTab tp).find? (fun w => decide (ixOf w a < ixOf w b)) with
  | none =>
    rw [hf] at e
    simp [b11, ev_var, ev_rd, ev_con, ev_tup, ev_lst, ev_bin, ev_neg, ev_not, ev_and, ev_or, ev_cmp, ev_chain, ev_ite, ev_call, ev_blt, ev_isa, ev_mth, ev_idx, ev_slc, ev_rev, ev_mkw, ev_comp, es_set, es_own, es_asg, es_par, es_ifs, es_ret, es_retn, es_pass, es_cont, es_exp, es_frz, es_loopL, ss_nil, ss_cons, evalDs, evalVs, evalT, evalO, evalI, M.bind, getV, getR, rhoOf, Val.asD, asB, asI, pickK, okd, endM, c9, iterD, e]
  | some w =>
    rw [hf] at e
    simp [b11, ev_var, ev_rd, ev_con, ev_tup, ev_lst, ev_bin, ev_neg, ev_not, ev_and, ev_or, ev_cmp, ev_chain, ev_ite, ev_call, ev_blt, ev_isa, ev_mth, ev_idx, ev_slc, ev_rev, ev_mkw, ev_comp, es_set, es_own, es_asg, es_par, es_ifs, es_ret, es_retn, es_pass, es_cont, es_exp, es_frz, es_loopL, ss_nil, ss_cons, evalDs, evalVs, evalT, evalO, evalI, M.bind, getV, getR, rhoOf, Val.asD, asB, asI, pickK, okd, endM, c9, iterD, e]
end
end DvK
end
section
namespace DvK
open PySem L2 Dv
theorem wish_tup {top : Int} {w : D} (h : isWishV top w = true) : ∃ xs, w = .tuple xs ∧ (xs.length : Int) = top + 1 := by
  cases w with
  | tuple xs => exact ⟨xs, rfl, of_decide_eq_true (ba h).1⟩
  | _ => cases h
section
variable {T : Tab} (hT : HasT T) (n : Nat)
include hT
theorem f14 {tp : Int × Int} (h : tp ∈ pairs) (h1 : 1 ≤ tp.1) (h6 : tp.1 ≤ 6) (p1 : 0 ≤ tp.2) (p2 : tp.2 ≤ tp.1) {a b : Int} (a1 : 0 ≤ a) (a2 : a ≤ tp.1) (b1 : 0 ≤ b) (b2 : b ≤ tp.1) : callN T (n + 5) 14 [.d (.int tp.1), .d (.int tp.2), .d (.int a), .d (.int b)] = okd (firstW tp a b) := by
  rw [call_fn hT.t14 rfl]
  have c6 := f6 hT n (inR_int h1 h6)
  have cp := f7 hT n (inR_int p1 p2)
  have ca := f7 hT n (inR_int a1 a2)
  have cb := f7 hT n (inR_int b1 b2)
  have c11 := f11 hT (n + 2) h a1 a2 b1 b2
  have l3 : lim 3 = true := rfl
  simp [b14, ev_var, ev_rd, ev_con, ev_tup, ev_lst, ev_bin, ev_neg, ev_not, ev_and, ev_or, ev_cmp, ev_chain, ev_ite, ev_call, ev_blt, ev_isa, ev_mth, ev_idx, ev_slc, ev_rev, ev_mkw, ev_comp, es_set, es_own, es_asg, es_par, es_ifs, es_ret, es_retn, es_pass, es_cont, es_exp, es_frz, es_loopL, ss_nil, ss_cons, evalDs, evalVs, evalT, evalO, evalI, M.bind, getV, getR, rhoOf, Val.asD, asB, asI, pickK, okd, endM, c6, gd, l3, iterD, Dv.forM, lap, asgD, cp, ca, cb, c11]
theorem f15 {tp : Int × Int} (h : tp ∈ pairs) (h1 : 1 ≤ tp.1) (h6 : tp.1 ≤ 6) {w : D} (hw : w ∈ wishTab tp) {a b : Int} (a1 : 0 ≤ a) (a2 : a ≤ tp.1) (b1 : 0 ≤ b) (b2 : b ≤ tp.1) : callN T (n + 5) 15 [.d w, .d (.int a), .d (.int b)] = okd (.bool (decide (ixOf w a < ixOf w b))) := by
  rw [call_fn hT.t15 rfl]
  have c10 := f10 hT (n + 3) h hw a1 a2 b1 b2
  obtain ⟨xs, e, hl⟩ := wish_tup (ix_ok h hw a1 a2).2
  have iw := (ix_ok h hw a1 a2).2
  subst e
  have c8 := f8 hT n (top := tp.1) (by omega) h6 (.tuple xs)
  rw [iw] at c8
  have ca := f7 hT n (inR_int a1 a2)
  have cb := f7 hT n (inR_int b1 b2)
  have hlen : bltD .len [.tuple xs] = okd (.int (tp.1 + 1)) := by
    rw [← hl]
    rfl
  have e1 : decide ((2 : Int) ≤ tp.1 + 1) = true := decide_eq_true (by omega)
  have e2 : decide (tp.1 + 1 ≤ (7 : Int)) = true := decide_eq_true (by omega)
  have e3 : tp.1 + 1 - 1 = tp.1 := by omega
  simp [b15, ev_var, ev_rd, ev_con, ev_tup, ev_lst, ev_bin, ev_neg, ev_not, ev_and, ev_or, ev_cmp, ev_chain, ev_ite, ev_call, ev_blt, ev_isa, ev_mth, ev_idx, ev_slc, ev_rev, ev_mkw, ev_comp, es_set, es_own, es_asg, es_par, es_ifs, es_ret, es_retn, es_pass, es_cont, es_exp, es_frz, es_loopL, ss_nil, ss_cons, evalDs, evalVs, evalT, evalO, evalI, M.bind, getV, getR, rhoOf, Val.asD, asB, asI, pickK, okd, endM, isaD, hlen, bin_add, bin_sub, cmp_le, e1, e2, e3, c8, ca, cb, c10]
end
end DvK
end
section
namespace DvK
open PySem L2 Dv
def body16 : Sxs := (.cons (.set 2 (.bin .Mod (.blt .int (.cons (.bin .Add (.bin .Add (.bin .Mult (.var 2) (.con (.int 47521))) (.bin .Mod (.blt .int (.cons (.var 3) .nil)) (.con (.int 2147483549)))) (.con (.int 41))) .nil)) (.con (.int 2147483629)))) .nil)
theorem mulR (c : Int) (h : small64 c = true) (x : Int) : binD .Mult (.int x) (.int c) = okd (.int (x * c)) := bin_mulR _ _ h
theorem mulL (c : Int) (h : small64 c = true) (x : Int) : binD .Mult (.int c) (.int x) = okd (.int (c * x)) := bin_mulL _ _ h
theorem stir_loop (C : CallT) (a b o : Option Slot) : ∀ (ns : List Int) (st : Int) (c : Option Slot), ∃ st' c', Dv.forM (lap C (.nm 3) body16) (ns.map .int) [a, b, some (.v (.d (.int st))), c, o] = .ok ([a, b, some (.v (.d (.int st'))), c', o], .nx)
  | [], st, c => ⟨st, c, rfl⟩
  | x :: ns, st, c => by
    obtain ⟨st', c', e⟩ := stir_loop C a b o ns ((st * 47521 + x % 2147483549 + 41) % 2147483629) (some (.v (.d (.int x))))
    refine ⟨st', c', ?_⟩
    rw [List.map_cons]
    unfold Dv.forM
    have g1 : ∀ x : Int, binD .Mod (.int x) (.int 2147483629) = okd (.int (x % 2147483629)) := fun x => bin_mod _ _ (by decide)
    have g2 : ∀ x : Int, binD .Mod (.int x) (.int 2147483549) = okd (.int (x % 2147483549)) := fun x => bin_mod _ _ (by decide)
    have g3 := mulR 47521 (by decide)
    rw [← e]
    simp [lap, body16, asgD, ev_var, ev_rd, ev_con, ev_tup, ev_lst, ev_bin, ev_neg, ev_not, ev_and, ev_or, ev_cmp, ev_chain, ev_ite, ev_call, ev_blt, ev_isa, ev_mth, ev_idx, ev_slc, ev_rev, ev_mkw, ev_comp, es_set, es_own, es_asg, es_par, es_ifs, es_ret, es_retn, es_pass, es_cont, es_exp, es_frz, es_loopL, ss_nil, ss_cons, evalDs, evalVs, evalT, evalO, evalI, M.bind, getV, getR, rhoOf, Val.asD, asB, asI, pickK, okd, endM, bltD, g1, g2, g3, bin_add]
section
variable {T : Tab} (hT : HasT T) (n : Nat)
include hT
theorem f16 (ns : List Int) {l : Int} (h0 : 0 ≤ l) : callN T (n + 1) 16 [.d (intsD ns), .d (.int l)] = .ok .well := by
  rw [call_fn hT.t16 rfl]
  have hb : b16 = .cons (.set 2 (.bin .Add (.con (.int 1616078)) (.bin .Mult (.con (.int 5231)) (.var 1)))) (.cons (.loop (.nm 3) (.seq (.slc (.var 0) .no (.yes (.con (.int 9))))) body16) (.cons (.set 4 (.ite (.cmp .Lt (.var 1) (.blt .len (.cons (.var 0) .nil))) (.blt .int (.cons (.idx (.var 0) (.var 1)) .nil)) (.con (.int 0)))) (.cons (.set 2 (.bin .Mod (.blt .int (.cons (.bin .Add (.bin .Add (.bin .Mult (.var 2) (.con (.int 61))) (.bin .Mult (.bin .Mod (.blt .int (.cons (.var 4) .nil)) (.con (.int 2147483549))) (.con (.int 16007)))) (.con (.int 17))) .nil)) (.con (.int 2147483629)))) (.cons (.ret (.mkw (.cons (.ite (.or_ (.cmp .Lt (.var 4) (.con (.int 0))) (.cmp .GtE (.var 4) (.bin .Pow (.con (.int 10)) (.con (.int 15))))) (.blt .abs (.cons (.var 4) .nil)) (.con (.int 0))) (.cons (.var 2) (.cons (.con (.int 0)) .nil))))) .nil)))) := rfl
  have g1 : ∀ x : Int, binD .Mod (.int x) (.int 2147483629) = okd (.int (x % 2147483629)) := fun x => bin_mod _ _ (by decide)
  have g2 : ∀ x : Int, binD .Mod (.int x) (.int 2147483549) = okd (.int (x % 2147483549)) := fun x => bin_mod _ _ (by decide)
  have g3 := mulL 5231 (by decide)
  have g4 := mulR 61 (by decide)
  have g5 := mulR 16007 (by decide)
  have g6 : binD .Pow (.int 10) (.int 15) = okd (.int 1000000000000000) := by rfl
  obtain ⟨k, hs⟩ : ∃ k, slcD (intsD ns) none (some 9) = okd (.list ((ns.take k).map .int)) := by
    refine ⟨HT.sIx (ns.map PyData.int).length (ns.map PyData.int).length (some 9) - 0, ?_⟩
    show okd (.list (cutD _ _ _)) = _
    unfold cutD
    rw [List.map_take]
    rfl
  obtain ⟨st', c', e⟩ := stir_loop (callN T n) (some (.v (.d (intsD ns)))) (some (.v (.d (.int l)))) none (ns.take k) (1616078 + 5231 * l) none
  rw [List.map_take] at e
  have hlen : bltD .len [intsD ns] = okd (.int (ns.length : Int)) := by
    show okd (.int ((ns.map PyData.int).length : Nat)) = _
    rw [List.length_map]
  have hlen2 : lenD (intsD ns) = okd (.int (ns.length : Int)) := hlen
  have fin : ∀ own : Int, ∀ st : Int, (evalSs (callN T n) (.cons (.set 2 (.bin .Mod (.blt .int (.cons (.bin .Add (.bin .Add (.bin .Mult (.var 2) (.con (.int 61))) (.bin .Mult (.bin .Mod (.blt .int (.cons (.var 4) .nil)) (.con (.int 2147483549))) (.con (.int 16007)))) (.con (.int 17))) .nil)) (.con (.int 2147483629)))) (.cons (.ret (.mkw (.cons (.ite (.or_ (.cmp .Lt (.var 4) (.con (.int 0))) (.cmp .GtE (.var 4) (.bin .Pow (.con (.int 10)) (.con (.int 15))))) (.blt .abs (.cons (.var 4) .nil)) (.con (.int 0))) (.cons (.var 2) (.cons (.con (.int 0)) .nil))))) .nil)) [some (.v (.d (intsD ns))), some (.v (.d (.int l))), some (.v (.d (.int st))), c', some (.v (.d (.int own)))]).bind endM = .ok .well := fun own st => by
    by_cases q1 : own < 0
    · have q3 : own ≤ 0 := by omega
      simp [ev_var, ev_rd, ev_con, ev_tup, ev_lst, ev_bin, ev_neg, ev_not, ev_and, ev_or, ev_cmp, ev_chain, ev_ite, ev_call, ev_blt, ev_isa, ev_mth, ev_idx, ev_slc, ev_rev, ev_mkw, ev_comp, es_set, es_own, es_asg, es_par, es_ifs, es_ret, es_retn, es_pass, es_cont, es_exp, es_frz, es_loopL, ss_nil, ss_cons, evalDs, evalVs, evalT, evalO, evalI, M.bind, getV, getR, rhoOf, Val.asD, asB, asI, pickK, okd, endM, bltD, g1, g2, g4, g5, bin_add, cmp_lt, q1, mkW, q3]
    · have q3 : 0 ≤ own := by omega
      by_cases q2 : (1000000000000000 : Int) ≤ own
      · simp [ev_var, ev_rd, ev_con, ev_tup, ev_lst, ev_bin, ev_neg, ev_not, ev_and, ev_or, ev_cmp, ev_chain, ev_ite, ev_call, ev_blt, ev_isa, ev_mth, ev_idx, ev_slc, ev_rev, ev_mkw, ev_comp, es_set, es_own, es_asg, es_par, es_ifs, es_ret, es_retn, es_pass, es_cont, es_exp, es_frz, es_loopL, ss_nil, ss_cons, evalDs, evalVs, evalT, evalO, evalI, M.bind, getV, getR, rhoOf, Val.asD, asB, asI, pickK, okd, endM, bltD, g1, g2, g4, g5, g6, bin_add, cmp_lt, cmp_ge, q1, q2, mkW, q3]
      · simp [ev_var, ev_rd, ev_con, ev_tup, ev_lst, ev_bin, ev_neg, ev_not, ev_and, ev_or, ev_cmp, ev_chain, ev_ite, ev_call, ev_blt, ev_isa, ev_mth, ev_idx, ev_slc, ev_rev, ev_mkw, ev_comp, es_set, es_own, es_asg, es_par, es_ifs, es_ret, es_retn, es_pass, es_cont, es_exp, es_frz, es_loopL, ss_nil, ss_cons, evalDs, evalVs, evalT, evalO, evalI, M.bind, getV, getR, rhoOf, Val.asD, asB, asI, pickK, okd, endM, bltD, g1, g2, g4, g5, g6, bin_add, cmp_lt, cmp_ge, q1, q2, mkW]
  have se : evalE (callN T n) (.slc (.var 0) .no (.yes (.con (.int 9)))) [some (.v (.d (intsD ns))), some (.v (.d (.int l))), some (.v (.d (.int (1616078 + 5231 * l)))), none, none] = okd (.list ((ns.take k).map .int)) := by
    simp only [ev_var, ev_rd, ev_con, ev_tup, ev_lst, ev_bin, ev_neg, ev_not, ev_and, ev_or, ev_cmp, ev_chain, ev_ite, ev_call, ev_blt, ev_isa, ev_mth, ev_idx, ev_slc, ev_rev, ev_mkw, ev_comp, es_set, es_own, es_asg, es_par, es_ifs, es_ret, es_retn, es_pass, es_cont, es_exp, es_frz, es_loopL, ss_nil, ss_cons, evalDs, evalVs, evalT, evalO, evalI, M.bind, getV, getR, rhoOf, Val.asD, asB, asI, pickK, okd, endM, List.getElem?_cons_zero]
    exact hs
  rw [hb]
  generalize ((.cons (.set 2 (.bin .Mod (.blt .int (.cons (.bin .Add (.bin .Add (.bin .Mult (.var 2) (.con (.int 61))) (.bin .Mult (.bin .Mod (.blt .int (.cons (.var 4) .nil)) (.con (.int 2147483549))) (.con (.int 16007)))) (.con (.int 17))) .nil)) (.con (.int 2147483629)))) (.cons (.ret (.mkw (.cons (.ite (.or_ (.cmp .Lt (.var 4) (.con (.int 0))) (.cmp .GtE (.var 4) (.bin .Pow (.con (.int 10)) (.con (.int 15))))) (.blt .abs (.cons (.var 4) .nil)) (.con (.int 0))) (.cons (.var 2) (.cons (.con (.int 0)) .nil))))) .nil)) : Sxs) = R at fin ⊢
  show ((evalSs (callN T n) _ [some (.v (.d (intsD ns))), some (.v (.d (.int l))), none, none, none]).bind endM) = _
  by_cases hl : l < (ns.length : Int)
  · have hlt : l.toNat < ns.length := by omega
    have hi : idxD (intsD ns) l = okd (.int ns[l.toNat]) := by
      show (match atI (ns.map PyData.int) l with | some y => okd y | none => M.bad) = _
      have : atI (ns.map PyData.int) l = some (.int ns[l.toNat]) := by
        unfold atI ixN
        rw [List.length_map, if_pos h0, if_pos hl]
        show (ns.map PyData.int)[l.toNat]? = _
        rw [List.getElem?_map, List.getElem?_eq_getElem hlt]
        rfl
      rw [this]
    have d1 : decide (l < (ns.length : Int)) = true := decide_eq_true hl
    simp [ev_var, ev_rd, ev_con, ev_tup, ev_lst, ev_bin, ev_neg, ev_not, ev_and, ev_or, ev_cmp, ev_chain, ev_ite, ev_call, ev_blt, ev_isa, ev_mth, ev_idx, ev_slc, ev_rev, ev_mkw, ev_comp, es_set, es_own, es_asg, es_par, es_ifs, es_ret, es_retn, es_pass, es_cont, es_exp, es_frz, es_loopL, ss_nil, ss_cons, evalDs, evalVs, evalT, evalO, evalI, M.bind, getV, getR, rhoOf, Val.asD, asB, asI, pickK, okd, endM, g3, bin_add, hs, iterD, e, hlen, hlen2, cmp_lt, d1, hi, bltD]
    exact fin _ _
  · have d1 : decide (l < (ns.length : Int)) = false := decide_eq_false hl
    simp [ev_var, ev_rd, ev_con, ev_tup, ev_lst, ev_bin, ev_neg, ev_not, ev_and, ev_or, ev_cmp, ev_chain, ev_ite, ev_call, ev_blt, ev_isa, ev_mth, ev_idx, ev_slc, ev_rev, ev_mkw, ev_comp, es_set, es_own, es_asg, es_par, es_ifs, es_ret, es_retn, es_pass, es_cont, es_exp, es_frz, es_loopL, ss_nil, ss_cons, evalDs, evalVs, evalT, evalO, evalI, M.bind, getV, getR, rhoOf, Val.asD, asB, asI, pickK, okd, endM, g3, bin_add, hs, iterD, e, hlen, cmp_lt, d1]
    exact fin _ _
end
end DvK
end
section
namespace DvK
open PySem L2 Dv
theorem at_nat {xs : List D} {r : Int} (h0 : 0 ≤ r) (h1 : r < (xs.length : Int)) : ∃ x ∈ xs, atI xs r = some x := by
  have hlt : r.toNat < xs.length := by omega
  refine ⟨xs[r.toNat], List.getElem_mem hlt, ?_⟩
  unfold atI ixN
  rw [if_pos h0, if_pos h1]
  show xs[r.toNat]? = _
  exact List.getElem?_eq_getElem hlt
section
variable {T : Tab} (hT : HasT T) (n : Nat)
include hT
theorem f17 {k : Int} {Q : Val → Prop} (h0 : 0 < k) (h1 : k < 1073741824) (q : ∀ r : Int, 0 ≤ r → r < k → Q (.d (.int r))) : (callN T (n + 1) 17 [.well, .d (.int k)]).Sat Q (fun _ _ => False) := by
  rw [call_draw hT.t17]
  exact ⟨⟨h0, h1⟩, fun r a b => q r a b⟩
theorem f18 {s : D} {xs : List D} (hs : seqOf s = some xs) (h0 : 0 < xs.length) (h1 : xs.length < 1073741824) : (callN T (n + 2) 18 [.well, .d s]).Sat (fun v => ∃ x ∈ xs, v = .d x) (fun _ _ => False) := by
  rw [call_fn hT.t18 rfl]
  have hl : bltD .len [s] = okd (.int (xs.length : Int)) := by
    cases s with
    | list ys => cases hs; rfl
    | tuple ys => cases hs; rfl
    | _ => cases hs
  have st : ∀ r : Int, 0 ≤ r → r < (xs.length : Int) → ∃ x ∈ xs, idxD s r = okd x := fun r a b => by
    obtain ⟨x, hx, e⟩ := at_nat a b
    refine ⟨x, hx, ?_⟩
    unfold idxD
    rw [hs]
    simp only [e]
  have c17 := fun Q q => f17 hT n (k := (xs.length : Int)) (Q := Q) (by omega) (by omega) q
  simp only [b18, ev_var, ev_rd, ev_con, ev_tup, ev_lst, ev_bin, ev_neg, ev_not, ev_and, ev_or, ev_cmp, ev_chain, ev_ite, ev_call, ev_blt, ev_isa, ev_mth, ev_idx, ev_slc, ev_rev, ev_mkw, ev_comp, es_set, es_own, es_asg, es_par, es_ifs, es_ret, es_retn, es_pass, es_cont, es_exp, es_frz, es_loopL, ss_nil, ss_cons, evalDs, evalVs, evalT, evalO, evalI, M.bind, getV, getR, rhoOf, Val.asD, asB, asI, pickK, okd, endM, M.sat_bind, List.map_cons, List.map_nil, List.length_cons, List.length_nil, List.cons_append, List.nil_append, List.getElem?_cons_zero, List.getElem?_cons_succ, M.Sat, hl]
  refine c17 _ fun r a b => ?_
  obtain ⟨x, hx, e⟩ := st r a b
  simp only [M.Sat, e, M.bind, okd]
  exact ⟨x, hx, rfl⟩
end
end DvK
end
section
namespace DvK
open PySem L2 Dv
theorem quiet_of {α : Type} : ∀ {m : M α} {Q : α → Prop} {E : Nat → List D → Prop}, m.Sat Q (fun _ _ => False) → m.quiet.Sat Q E
  | .ok _, _, _, h => h
  | .exn _ _, _, _, h => h
  | .bad, _, _, h => h
  | .draw _ k, _, _, h => ⟨h.1, fun r a b => quiet_of (h.2 r a b)⟩
theorem compM_true {f : D → M (Option D)} : ∀ {xs : List D}, (∀ x ∈ xs, (f x).Sat (fun o => o = some (.bool true)) (fun _ _ => False)) → (compM f xs).Sat (fun l => l = List.replicate xs.length (.bool true)) (fun _ _ => False)
  | [], _ => rfl
  | x :: xs, h => by
    unfold compM
    rw [M.sat_bind]
    refine (h x List.mem_cons_self).mono (fun o ho => ?_) fun _ _ z => z
    subst ho
    rw [M.sat_bind]
    exact (compM_true fun y hy => h y (List.mem_cons_of_mem _ hy)).mono (fun l hl => by rw [hl]; rfl) fun _ _ z => z
theorem min2 (i j : Int) : bltD .min [.int i, .int j] = okd (.int (if j < i then j else i)) := rfl
theorem max2 (i j : Int) : bltD .max [.int i, .int j] = okd (.int (if i < j then j else i)) := rfl
theorem count3 (k : Nat) : ∃ m : Int, 1 ≤ m ∧ m ≤ 3 ∧ ∃ q : Int, bltD .min [.int (k : Int), .int 3] = okd (.int q) ∧ bltD .max [.int 1, .int q] = okd (.int m) := by
  rw [min2]
  refine ⟨_, ?_, ?_, _, rfl, max2 _ _⟩
  · split <;> omega
  · split <;> split <;> omega
theorem law24a (C : CallT) (ns : List Int) (h16 : ∀ l : Int, 0 ≤ l → C 16 [.d (intsD ns), .d (.int l)] = .ok .well) (h23 : (C 23 [.well]).Sat (fun v => v = .d (.bool true)) (fun _ _ => False)) (m : Int) :
    (compM (turn C (.call 23 (.cons (.call 16 (.cons (.var 0) (.cons (.var 1) .nil)) [0, 1]) .nil) [0]) (.nm 1) .nil [1] [some (.v (.d (intsD ns))), none]) (rngD 0 m)).Sat (fun l => l = List.replicate (rngD 0 m).length (.bool true)) (fun _ _ => False) := by
  refine compM_true fun x hx => ?_
  have hk : ∃ k : Nat, x = .int (0 + (k : Nat)) := (List.mem_map.mp hx).elim fun k z => ⟨k, z.2.symm⟩
  refine hk.elim fun k e => ?_
  subst e
  have c16 := h16 (0 + (k : Nat)) (by omega)
  simp only [turn, asgD, wipeD, ev_var, ev_rd, ev_con, ev_tup, ev_lst, ev_bin, ev_neg, ev_not, ev_and, ev_or, ev_cmp, ev_chain, ev_ite, ev_call, ev_blt, ev_isa, ev_mth, ev_idx, ev_slc, ev_rev, ev_mkw, ev_comp, es_set, es_own, es_asg, es_par, es_ifs, es_ret, es_retn, es_pass, es_cont, es_exp, es_frz, es_loopL, ss_nil, ss_cons, evalDs, evalVs, evalT, evalO, evalI, M.bind, getV, getR, rhoOf, Val.asD, asB, asI, pickK, okd, endM, List.set_cons_zero, List.set_cons_succ, List.getElem?_cons_zero, List.getElem?_cons_succ, c16, M.sat_bind, if_true]
  exact h23.mono (fun v e => by subst e; rfl) fun _ _ z => z
theorem all_rep : ∀ k : Nat, bltD .all [.list (List.replicate k (.bool true))] = okd (.bool true) := fun k => by
  have h : boolsOf (List.replicate k (.bool true)) = some (List.replicate k true) := by
    induction k with
    | zero => rfl
    | succ k ih =>
      rw [List.replicate_succ]
      unfold boolsOf
      rw [ih]
      rfl
  show (match boolsOf (List.replicate k (.bool true)) with | some bs => okd (.bool (bs.all id)) | none => M.bad) = _
  rw [h]
  show okd (.bool ((List.replicate k true).all id)) = _
  have : (List.replicate k true).all id = true := List.all_eq_true.mpr fun x hx => (List.mem_replicate.mp hx).2
  rw [this]
theorem law24b (C : CallT) (ns : List Int) (m q : Int) (hm1 : 1 ≤ m) (hm2 : m ≤ 3) (e1 : bltD .min [.int (ns.length : Int), .int 3] = okd (.int q)) (e2 : bltD .max [.int 1, .int q] = okd (.int m))
    (hc : (compM (turn C (.call 23 (.cons (.call 16 (.cons (.var 0) (.cons (.var 1) .nil)) [0, 1]) .nil) [0]) (.nm 1) .nil [1] [some (.v (.d (intsD ns))), none]) (rngD 0 m)).Sat (fun l => l = List.replicate (rngD 0 m).length (.bool true)) (fun _ _ => False)) :
    Run ((evalSs C b24 (rhoOf 2 [.d (intsD ns)])).bind endM) (fun v => v = .d (.bool true)) := by
  constructor
  have hlen : bltD .len [intsD ns] = okd (.int (ns.length : Int)) := by
    show okd (.int ((ns.map PyData.int).length : Nat)) = _
    rw [List.length_map]
  have r1 : decide (-(2 ^ 62) ≤ m) = true := decide_eq_true (by omega)
  have r2 : decide (m < 2 ^ 62) = true := decide_eq_true (by omega)
  have hl : lim (rngD 0 m).length = true := lim_small (by unfold rngD; rw [List.length_map, List.length_range]; omega)
  rw [M.sat_bind]
  simp only [b24, ev_var, ev_rd, ev_con, ev_tup, ev_lst, ev_bin, ev_neg, ev_not, ev_and, ev_or, ev_cmp, ev_chain, ev_ite, ev_call, ev_blt, ev_isa, ev_mth, ev_idx, ev_slc, ev_rev, ev_mkw, ev_comp, es_set, es_own, es_asg, es_par, es_ifs, es_ret, es_retn, es_pass, es_cont, es_exp, es_frz, es_loopL, ss_nil, ss_cons, evalDs, evalVs, evalT, evalO, evalI, M.bind, getV, getR, rhoOf, Val.asD, asB, asI, pickK, okd, endM, M.sat_bind, List.map_cons, List.map_nil, List.length_cons, List.length_nil, List.replicate, List.cons_append, List.nil_append, List.getElem?_cons_zero, List.getElem?_cons_succ, M.Sat, hlen, e1, e2, r1, r2, Bool.and_self, if_true, gd, hl]
  refine quiet_of (hc.mono (fun l e => ?_) fun _ _ z => z)
  rw [e]
  simp only [all_rep, M.Sat, okd]
end DvK
end
section
namespace DvK
open PySem L2 Dv
theorem slc_t (xs : List D) (lo hi : Option Int) : slcD (.tuple xs) lo hi = okd (.tuple (cutD xs lo hi)) := rfl
theorem cut_le (xs : List D) (lo hi : Option Int) : (cutD xs lo hi).length ≤ xs.length := by
  unfold cutD
  rw [List.length_take, List.length_drop]
  omega
theorem tadd {a b : List D} (h : a.length + b.length ≤ 1000) : binD .Add (.tuple a) (.tuple b) = okd (.tuple (a ++ b)) := by
  show gd (lim (a.length + b.length)) _ = _
  rw [lim_small h]
  rfl
theorem ladd {a b : List D} (h : a.length + b.length ≤ 1000) : binD .Add (.list a) (.list b) = okd (.list (a ++ b)) := by
  show gd (lim (a.length + b.length)) _ = _
  rw [lim_small h]
  rfl
/-- a run's end, hidden from the elaborator -/
structure Goes (m : M Val) (Q : Val → Prop) : Prop where
  run : m.Sat Q (fun _ _ => False)
/-- the statements behind the two draws -/
def rest22 : Sxs := match b22 with
  | .cons _ r => r
  | _ => .nil
theorem bent_rest (C : CallT) (h18 : ∀ (s : D) (xs : List D), seqOf s = some xs → 0 < xs.length → xs.length < 1073741824 → (C 18 [.well, .d s]).Sat (fun v => ∃ x ∈ xs, v = .d x) (fun _ _ => False)) {xs : List D} (hl : xs.length ≤ 7) {at_ to : Int} (t0 : 0 ≤ to) (t1 : to < (xs.length : Int)) :
    Goes ((evalSs C rest22 [some (.v .well), some (.v (.d (.tuple xs))), some (.v (.d (.int at_))), some (.v (.d (.int to))), none, none, none, none, none]).bind endM) (fun v => ∃ d, v = .d d) := by
  constructor
  have hlt : to.toNat < xs.length := by omega
  have ey : idxD (.tuple xs) to = okd xs[to.toNat] := by
    show (match atI xs to with | some y => okd y | none => M.bad) = _
    have : atI xs to = some xs[to.toNat] := by
      unfold atI ixN
      rw [if_pos t0, if_pos t1]
      exact List.getElem?_eq_getElem hlt
    rw [this]
  have lt := fun lo hi => Nat.le_trans (cut_le xs lo hi) hl
  have l0 : lim 0 = true := rfl
  have l1 : lim 1 = true := rfl
  have l2 : lim 2 = true := rfl
  have l6 : lim 6 = true := rfl
  have l10 : lim 10 = true := rfl
  have bl : bltD .list [.tuple xs] = okd (.list xs) := rfl
  have rv : revD (.tuple xs) = okd (.tuple xs.reverse) := rfl
  have ng : negD (.int 1) = okd (.int (-1)) := rfl
  have a1 : binD .Add (.tuple xs) (.tuple [.int 0]) = okd (.tuple (xs ++ [.int 0])) := tadd (by simp; omega)
  have a2 : binD .Add (.tuple xs) (.tuple (cutD xs (some (-1)) none)) = okd (.tuple (xs ++ cutD xs (some (-1)) none)) := tadd (by have := lt (some (-1)) none; omega)
  have c1 : ∀ x : D, binD .Add (.tuple (cutD xs none (some at_))) (.tuple [x]) = okd (.tuple (cutD xs none (some at_) ++ [x])) := fun x => tadd (by have := lt none (some at_); simp; omega)
  have c2 : ∀ x : D, binD .Add (.tuple (cutD xs none (some at_) ++ [x])) (.tuple (cutD xs (some (at_ + 1)) none)) = okd (.tuple (cutD xs none (some at_) ++ [x] ++ cutD xs (some (at_ + 1)) none)) := fun x => tadd (by
    have := lt none (some at_)
    have := lt (some (at_ + 1)) none
    rw [List.length_append, List.length_singleton]
    omega)
  have hc : ∀ (s4 : Option Slot) (l : List D), compM (turn C (.bin .Add (.bin .Add (.slc (.var 1) .no (.yes (.var 2))) (.tup (.cons (.var 8) .nil))) (.slc (.var 1) (.yes (.bin .Add (.var 2) (.con (.int 1)))) .no)) (.nm 8) .nil [8] [some (.v .well), some (.v (.d (.tuple xs))), some (.v (.d (.int at_))), some (.v (.d (.int to))), s4, none, none, none, none]) l = .ok (l.map fun x => .tuple (cutD xs none (some at_) ++ [x] ++ cutD xs (some (at_ + 1)) none)) := fun s4 l => compM_map fun x _ => by
    simp only [turn, asgD, wipeD, ev_var, ev_rd, ev_con, ev_tup, ev_lst, ev_bin, ev_neg, ev_not, ev_and, ev_or, ev_cmp, ev_chain, ev_ite, ev_call, ev_blt, ev_isa, ev_mth, ev_idx, ev_slc, ev_rev, ev_mkw, ev_comp, es_set, es_own, es_asg, es_par, es_ifs, es_ret, es_retn, es_pass, es_cont, es_exp, es_frz, es_loopL, ss_nil, ss_cons, evalDs, evalVs, evalT, evalO, evalI, M.bind, getV, getR, rhoOf, Val.asD, asB, asI, pickK, okd, endM, List.set_cons_zero, List.set_cons_succ, List.getElem?_cons_zero, List.getElem?_cons_succ, slc_t, bin_add, l1, gd, if_true, c1, c2, List.length_cons, List.length_nil, Nat.zero_add]
  have mn := min2 at_ to
  have mx := max2 at_ to
  generalize (if to < at_ then to else at_) = lo at mn
  generalize (if at_ < to then to else at_) = hi at mx
  have s1 : binD .Add (.tuple (cutD xs none (some lo))) (.tuple (cutD xs (some hi) (some (hi + 1)))) = okd (.tuple (cutD xs none (some lo) ++ cutD xs (some hi) (some (hi + 1)))) := tadd (by
    have := lt none (some lo)
    have := lt (some hi) (some (hi + 1))
    omega)
  have s2 : binD .Add (.tuple (cutD xs none (some lo) ++ cutD xs (some hi) (some (hi + 1)))) (.tuple (cutD xs (some (lo + 1)) (some hi))) = okd (.tuple (cutD xs none (some lo) ++ cutD xs (some hi) (some (hi + 1)) ++ cutD xs (some (lo + 1)) (some hi))) := tadd (by
    have := lt none (some lo)
    have := lt (some hi) (some (hi + 1))
    have := lt (some (lo + 1)) (some hi)
    rw [List.length_append]
    omega)
  have s3 : binD .Add (.tuple (cutD xs none (some lo) ++ cutD xs (some hi) (some (hi + 1)) ++ cutD xs (some (lo + 1)) (some hi))) (.tuple (cutD xs (some lo) (some (lo + 1)))) = okd (.tuple (cutD xs none (some lo) ++ cutD xs (some hi) (some (hi + 1)) ++ cutD xs (some (lo + 1)) (some hi) ++ cutD xs (some lo) (some (lo + 1)))) := tadd (by
    have := lt none (some lo)
    have := lt (some hi) (some (hi + 1))
    have := lt (some (lo + 1)) (some hi)
    have := lt (some lo) (some (lo + 1))
    rw [List.length_append, List.length_append]
    omega)
  have s4 : binD .Add (.tuple (cutD xs none (some lo) ++ cutD xs (some hi) (some (hi + 1)) ++ cutD xs (some (lo + 1)) (some hi) ++ cutD xs (some lo) (some (lo + 1)))) (.tuple (cutD xs (some (hi + 1)) none)) = okd (.tuple (cutD xs none (some lo) ++ cutD xs (some hi) (some (hi + 1)) ++ cutD xs (some (lo + 1)) (some hi) ++ cutD xs (some lo) (some (lo + 1)) ++ cutD xs (some (hi + 1)) none)) := tadd (by
    have := lt none (some lo)
    have := lt (some hi) (some (hi + 1))
    have := lt (some (lo + 1)) (some hi)
    have := lt (some lo) (some (lo + 1))
    have := lt (some (hi + 1)) none
    rw [List.length_append, List.length_append, List.length_append]
    omega)
  have ld : ∀ a b c d e f g h i j : D, ∀ l : List D, l.length = 6 → binD .Add (.list [a, b, c, d, e, f, g, h, i, j]) (.list l) = okd (.list ([a, b, c, d, e, f, g, h, i, j] ++ l)) := fun _ _ _ _ _ _ _ _ _ _ l h => ladd (by rw [h]; show 10 + 6 ≤ 1000; decide)
  have le : ∀ (l : List D) (a b : D), l.length = 16 → binD .Add (.list l) (.list [a, b]) = okd (.list (l ++ [a, b])) := fun l a b h => ladd (by rw [h]; show 16 + 2 ≤ 1000; decide)
  have fin : ∀ (l : List D), l.length = 18 → (C 18 [.well, .d (.list l)]).Sat (fun v => ∃ d, v = .d d) (fun _ _ => False) := fun l h => (h18 (.list l) l rfl (by omega) (by omega)).mono (fun v z => z.elim fun x q => ⟨x, q.2⟩) fun _ _ z => z
  simp only [List.append_assoc] at s2 s3 s4
  rw [M.sat_bind]
  cases hd : decide (lo < hi) <;>
    simp [rest22, b22, ev_var, ev_rd, ev_con, ev_tup, ev_lst, ev_bin, ev_neg, ev_not, ev_and, ev_or, ev_cmp, ev_chain, ev_ite, ev_call, ev_blt, ev_isa, ev_mth, ev_idx, ev_slc, ev_rev, ev_mkw, ev_comp, es_set, es_own, es_asg, es_par, es_ifs, es_ret, es_retn, es_pass, es_cont, es_exp, es_frz, es_loopL, ss_nil, ss_cons, evalDs, evalVs, evalT, evalO, evalI, M.bind, getV, getR, rhoOf, Val.asD, asB, asI, pickK, okd, endM, M.sat_bind, M.Sat, slc_t, bin_add, bin_sub, l0, l1, l2, l6, l10, gd, bl, rv, ng, a1, a2, c1, c2, hc, iterD, M.quiet, ey, mn, mx, s1, s2, s3, s4, ld, le, cmp_lt, hd]
  all_goals (refine fin _ ?_; rfl)
end DvK
end
section
namespace DvK
open PySem L2 Dv
theorem bent22 (C : CallT) (h17 : ∀ (k : Int) (Q : Val → Prop), 0 < k → k < 1073741824 → (∀ r : Int, 0 ≤ r → r < k → Q (.d (.int r))) → (C 17 [.well, .d (.int k)]).Sat Q (fun _ _ => False))
    (h18 : ∀ (s : D) (xs : List D), seqOf s = some xs → 0 < xs.length → xs.length < 1073741824 → (C 18 [.well, .d s]).Sat (fun v => ∃ x ∈ xs, v = .d x) (fun _ _ => False)) {xs : List D} (h0 : 0 < xs.length) (hl : xs.length ≤ 7) :
    Goes ((evalSs C b22 (rhoOf 9 [.well, .d (.tuple xs)])).bind endM) (fun v => ∃ d, v = .d d) := by
  constructor
  have hlen : bltD .len [.tuple xs] = okd (.int (xs.length : Int)) := rfl
  have l2 : lim 2 = true := rfl
  have hb : b22 = .cons (.asg (.tp [2, 3]) (.tup (.cons (.call 17 (.cons (.var 0) (.cons (.blt .len (.cons (.var 1) .nil)) .nil)) [0, 1]) (.cons (.call 17 (.cons (.var 0) (.cons (.blt .len (.cons (.var 1) .nil)) .nil)) [0, 1]) .nil)))) rest22 := rfl
  have br := fun (a b : Int) (x : 0 ≤ b) (y : b < (xs.length : Int)) => @bent_rest C h18 xs hl a b x y
  rw [hb]
  generalize rest22 = R at br ⊢
  rw [M.sat_bind, ss_cons, M.sat_bind]
  simp only [ev_var, ev_rd, ev_con, ev_tup, ev_lst, ev_bin, ev_neg, ev_not, ev_and, ev_or, ev_cmp, ev_chain, ev_ite, ev_call, ev_blt, ev_isa, ev_mth, ev_idx, ev_slc, ev_rev, ev_mkw, ev_comp, es_set, es_own, es_asg, es_par, es_ifs, es_ret, es_retn, es_pass, es_cont, es_exp, es_frz, es_loopL, ss_nil, ss_cons, evalDs, evalVs, evalT, evalO, evalI, M.bind, getV, getR, rhoOf, Val.asD, asB, asI, pickK, okd, endM, M.sat_bind, M.Sat, List.map_cons, List.map_nil, List.length_cons, List.length_nil, List.cons_append, List.nil_append, List.getElem?_cons_zero, List.getElem?_cons_succ, hlen]
  refine h17 _ _ (by omega) (by omega) fun a a0 a1 => ?_
  refine h17 _ _ (by omega) (by omega) fun b b0 b1 => ?_
  have z := (br a b b0 b1).run
  rw [M.sat_bind] at z
  simp only [M.Sat, gd, l2, if_true, List.length_cons, List.length_nil, Nat.zero_add, asgD]
  exact z
end DvK
end
section
namespace DvK
open PySem L2 Dv
/-- what the calls give -/
structure CF (C : CallT) : Prop where
  h12 : ∀ (top : Int) (v : D), 1 ≤ top → top ≤ 6 → C 12 [.d (.int top), .d v] = okd (.bool (isWishV top v))
  h13 : ∀ tp : Int × Int, tp ∈ pairs → C 13 [.d (.int tp.1), .d (.int tp.2)] = okd (.tuple (wishTab tp))
  h14 : ∀ (tp : Int × Int) (a b : Int), tp ∈ pairs → 0 ≤ a → a ≤ tp.1 → 0 ≤ b → b ≤ tp.1 → C 14 [.d (.int tp.1), .d (.int tp.2), .d (.int a), .d (.int b)] = okd (firstW tp a b)
  h15 : ∀ (tp : Int × Int) (w : D) (a b : Int), tp ∈ pairs → w ∈ wishTab tp → 0 ≤ a → a ≤ tp.1 → 0 ≤ b → b ≤ tp.1 → C 15 [.d w, .d (.int a), .d (.int b)] = okd (.bool (decide (ixOf w a < ixOf w b)))
  h17 : ∀ (k : Int) (Q : Val → Prop), 0 < k → k < 1073741824 → (∀ r : Int, 0 ≤ r → r < k → Q (.d (.int r))) → (C 17 [.well, .d (.int k)]).Sat Q (fun _ _ => False)
  h18 : ∀ (s : D) (xs : List D), seqOf s = some xs → 0 < xs.length → xs.length < 1073741824 → (C 18 [.well, .d s]).Sat (fun v => ∃ x ∈ xs, v = .d x) (fun _ _ => False)
  h19 : ∀ x : D, reprOk x = true → C 19 [.d x, .d x] = okd (.bool true)
  h20 : ∀ (top : Int) (v : D), 0 ≤ top → top ≤ 6 → C 20 [.d (.int top), .d v] = okd (.bool (isWishV top v))
  h21 : ∀ tp : Int × Int, tp ∈ pairs → C 21 [.d (.int tp.1), .d (.int tp.2)] = okd (.list (wishTab tp))
  h22 : ∀ xs : List D, 0 < xs.length → xs.length ≤ 7 → (C 22 [.well, .d (.tuple xs)]).Sat (fun v => ∃ d, v = .d d) (fun _ _ => False)
theorem compM_filt {f : D → M (Option D)} {p : D → Bool} : ∀ {xs : List D}, (∀ x ∈ xs, f x = .ok (if p x = true then some x else none)) → compM f xs = .ok (xs.filter p)
  | [], _ => rfl
  | x :: xs, h => by
    unfold compM
    rw [h x List.mem_cons_self, compM_filt fun y hy => h y (List.mem_cons_of_mem _ hy), List.filter_cons]
    cases hp : p x <;> rfl
theorem plain_all : ∀ {xs : List D}, (xs.all fun x => x.plain) = true → PyData.plainAll xs = true
  | [], _ => by simp [PyData.plainAll]
  | x :: xs, h => by
    rw [List.all_cons, Bool.and_eq_true] at h
    simp [PyData.plainAll, h.1, plain_all h.2]
theorem ne_nilD {ys : List D} (h : (ys.all fun x => x.plain) = true) : cmpD .NotEq (.list ys) (.list []) = okd (.bool (!ys.isEmpty)) := by
  have hp : plain2 (.list ys) (.list []) = true := by
    unfold plain2
    have h1 : (PyData.list ys).plain = true := by
      unfold PyData.plain
      exact plain_all h
    have h2 : (PyData.list []).plain = true := by
      unfold PyData.plain
      simp [PyData.plainAll]
    have h3 : Nat.ble (PyData.list []).depth 64 = true := by
      simp [PyData.depth, PyData.depthAll]
    rw [h1, h2, h3, Bool.or_true]
    rfl
  have he : PyData.eqv (.list ys) (.list []) = ys.isEmpty := by
    cases ys <;> simp [PyData.eqv, PyData.eqvAll]
  show gd (plain2 _ _) (.bool (!PyData.eqv _ _)) = _
  rw [hp, he]
  rfl
theorem chk3 : pairs.all (fun tp => (wishTab tp).all fun x => x.plain) = true := by kernel_rfl
theorem repr_first {tp : Int × Int} (h : tp ∈ pairs) (a b : Int) : reprOk (.list [firstW tp a b, firstW tp a b]) = true := by
  unfold firstW
  cases hf : (wishTab tp).find? (fun w => decide (ixOf w a < ixOf w b)) with
  | none => exact rep_none
  | some w =>
    have hw := List.mem_of_find?_eq_some hf
    exact repr_of (List.all_eq_true.mp (ba (List.all_eq_true.mp chk2 tp h)).2 w hw)
theorem fit_first {tp : Int × Int} {a b : Int} : (((wishTab tp).filter fun w => decide (ixOf w a < ixOf w b)) = [] ∧ firstW tp a b = .none) ∨ ∃ w r, ((wishTab tp).filter fun w => decide (ixOf w a < ixOf w b)) = w :: r ∧ firstW tp a b = w := by
  have e := List.head?_filter (p := fun w => decide (ixOf w a < ixOf w b)) (l := wishTab tp)
  unfold firstW
  cases hf : (wishTab tp).filter (fun w => decide (ixOf w a < ixOf w b)) with
  | nil =>
    rw [hf] at e
    rw [← e]
    exact .inl ⟨rfl, rfl⟩
  | cons w r =>
    rw [hf] at e
    rw [← e]
    exact .inr ⟨w, r, rfl, rfl⟩
end DvK
end
section
namespace DvK
open PySem L2 Dv
def bodyTwo : Sxs := (.cons (.set 11 (.comp (.var 15) (.nm 15) (.seq (.var 4)) (.cons (.cmp .Lt (.mth .index (.var 15) (.cons (.var 9) .nil)) (.mth .index (.var 15) (.cons (.var 10) .nil))) .nil) [15])) (.cons (.set 7 (.ite (.cmp .NotEq (.var 11) (.lst .nil)) (.idx (.var 11) (.con (.int 0))) (.con .none))) (.cons (.set 12 (.lst (.cons (.call 14 (.cons (.var 2) (.cons (.var 3) (.cons (.var 9) (.cons (.var 10) .nil)))) [0, 1, 2, 3]) (.cons (.call 14 (.cons (.var 10) (.cons (.var 9) (.cons (.var 3) (.cons (.var 2) .nil)))) [3, 2, 1, 0]) .nil)))) (.cons (.ifs (.not_ (.call 19 (.cons (.var 12) (.cons (.lst (.cons (.var 7) (.cons (.var 7) .nil))) .nil)) [0, 1])) (.cons (.ret (.con (.bool false))) .nil) .nil) (.cons (.set 13 (.cmp .Lt (.mth .index (.var 5) (.cons (.var 9) .nil)) (.mth .index (.var 5) (.cons (.var 10) .nil)))) (.cons (.set 12 (.lst (.cons (.call 15 (.cons (.var 5) (.cons (.var 9) (.cons (.var 10) .nil))) [0, 1, 2]) (.cons (.call 15 (.cons (.var 10) (.cons (.var 9) (.cons (.var 5) .nil))) [2, 1, 0]) .nil)))) (.cons (.ifs (.not_ (.call 19 (.cons (.var 12) (.cons (.lst (.cons (.var 13) (.cons (.var 13) .nil))) .nil)) [0, 1])) (.cons (.ret (.con (.bool false))) .nil) .nil) .nil)))))))
abbrev sv (x : D) : Option Dv.Slot := some (.v (.d x))
theorem lap_two {C : CallT} (F : CF C) {tp : Int × Int} (h : tp ∈ pairs) {w : D} (hw : w ∈ wishTab tp) {a b : Int} (a1 : 0 ≤ a) (a2 : a ≤ tp.1) (b1 : 0 ≤ b) (b2 : b ≤ tp.1) (s1 s6 s7 s8 s10 s11 s12 s13 s14 s15 : Option Dv.Slot) :
    lap C (.nm 10) bodyTwo (.int b) [some (.v .well), s1, sv (.int tp.1), sv (.int tp.2), sv (.tuple (wishTab tp)), sv w, s6, s7, s8, sv (.int a), s10, s11, s12, s13, s14, s15] =
      .ok ([some (.v .well), s1, sv (.int tp.1), sv (.int tp.2), sv (.tuple (wishTab tp)), sv w, s6, sv (firstW tp a b), s8, sv (.int a), sv (.int b), sv (.list ((wishTab tp).filter fun w => decide (ixOf w a < ixOf w b))), sv (.list [.bool (decide (ixOf w a < ixOf w b)), .bool (decide (ixOf w a < ixOf w b))]), sv (.bool (decide (ixOf w a < ixOf w b))), s14, s15], .nx) := by
  have hc : ∀ r11 : Option Dv.Slot, compM (turn C (.var 15) (.nm 15) (.cons (.cmp .Lt (.mth .index (.var 15) (.cons (.var 9) .nil)) (.mth .index (.var 15) (.cons (.var 10) .nil))) .nil) [15] [some (.v .well), s1, sv (.int tp.1), sv (.int tp.2), sv (.tuple (wishTab tp)), sv w, s6, s7, s8, sv (.int a), sv (.int b), r11, s12, s13, s14, s15]) (wishTab tp) = .ok ((wishTab tp).filter fun w => decide (ixOf w a < ixOf w b)) := fun r11 => compM_filt fun x hx => by
    have e1 := (ix_ok h hx a1 a2).1
    have e2 := (ix_ok h hx b1 b2).1
    simp only [turn, asgD, wipeD, sv, ev_var, ev_rd, ev_con, ev_tup, ev_lst, ev_bin, ev_neg, ev_not, ev_and, ev_or, ev_cmp, ev_chain, ev_ite, ev_call, ev_blt, ev_isa, ev_mth, ev_idx, ev_slc, ev_rev, ev_mkw, ev_comp, es_set, es_own, es_asg, es_par, es_ifs, es_ret, es_retn, es_pass, es_cont, es_exp, es_frz, es_loopL, ss_nil, ss_cons, evalDs, evalVs, evalT, evalO, evalI, M.bind, getV, getR, rhoOf, Val.asD, asB, asI, pickK, okd, endM, List.set_cons_zero, List.set_cons_succ, List.getElem?_cons_zero, List.getElem?_cons_succ, e1, e2, cmp_lt]
    cases decide (ixOf x a < ixOf x b) <;> rfl
  have hlen : lim (wishTab tp).length = true := by
    have c := (ba (ba (List.all_eq_true.mp chk1 tp h)).2).1
    exact lim_small (by have := Nat.le_of_ble_eq_true c; omega)
  have hp : (((wishTab tp).filter fun w => decide (ixOf w a < ixOf w b)).all fun x => x.plain) = true := List.all_eq_true.mpr fun x hx => List.all_eq_true.mp (List.all_eq_true.mp chk3 tp h) x (List.mem_filter.mp hx).1
  have l0 : lim 0 = true := rfl
  have l2 : lim 2 = true := rfl
  have e1 := (ix_ok h hw a1 a2).1
  have e2 := (ix_ok h hw b1 b2).1
  have c14 := F.h14 tp a b h a1 a2 b1 b2
  have c15 := F.h15 tp w a b h hw a1 a2 b1 b2
  have r1 := F.h19 _ (repr_first h a b)
  have r2 := F.h19 _ (rep_bools (decide (ixOf w a < ixOf w b)))
  have n1 := ne_nilD hp
  have ff := fit_first (tp := tp) (a := a) (b := b)
  have ih : ∀ (y : D) (r : List D), idxD (.list (y :: r)) 0 = okd y := fun y r => by
    show (match atI (y :: r) 0 with | some y => okd y | none => M.bad) = _
    have : atI (y :: r) 0 = some y := by
      unfold atI ixN
      rw [if_pos (by decide), if_pos (by rw [List.length_cons]; omega)]
      rfl
    rw [this]
  generalize (wishTab tp).filter (fun w => decide (ixOf w a < ixOf w b)) = ys at hc n1 ff ⊢
  generalize firstW tp a b = fw at c14 r1 ff ⊢
  have e3 := cmp_lt (ixOf w a) (ixOf w b)
  generalize decide (ixOf w a < ixOf w b) = cb at c15 r2 e3 ⊢
  rcases ff with ⟨rfl, rfl⟩ | ⟨y, r, rfl, rfl⟩
  · have n2 : cmpD .NotEq (.list []) (.list []) = okd (.bool false) := n1
    simp [lap, bodyTwo, asgD, sv, ev_var, ev_rd, ev_con, ev_tup, ev_lst, ev_bin, ev_neg, ev_not, ev_and, ev_or, ev_cmp, ev_chain, ev_ite, ev_call, ev_blt, ev_isa, ev_mth, ev_idx, ev_slc, ev_rev, ev_mkw, ev_comp, es_set, es_own, es_asg, es_par, es_ifs, es_ret, es_retn, es_pass, es_cont, es_exp, es_frz, es_loopL, ss_nil, ss_cons, evalDs, evalVs, evalT, evalO, evalI, M.bind, getV, getR, rhoOf, Val.asD, asB, asI, pickK, okd, endM, iterD, hc, M.quiet, gd, hlen, n2, l0, l2, c14, c15, r1, r2, e1, e2, e3]
  · have n2 : cmpD .NotEq (.list (fw :: r)) (.list []) = okd (.bool true) := n1
    simp [lap, bodyTwo, asgD, sv, ev_var, ev_rd, ev_con, ev_tup, ev_lst, ev_bin, ev_neg, ev_not, ev_and, ev_or, ev_cmp, ev_chain, ev_ite, ev_call, ev_blt, ev_isa, ev_mth, ev_idx, ev_slc, ev_rev, ev_mkw, ev_comp, es_set, es_own, es_asg, es_par, es_ifs, es_ret, es_retn, es_pass, es_cont, es_exp, es_frz, es_loopL, ss_nil, ss_cons, evalDs, evalVs, evalT, evalO, evalI, M.bind, getV, getR, rhoOf, Val.asD, asB, asI, pickK, okd, endM, iterD, hc, M.quiet, gd, hlen, n2, l0, l2, c14, c15, r1, r2, e1, e2, e3, ih]
end DvK
end
section
namespace DvK
open PySem L2 Dv
section
variable {C : CallT}
theorem CF.r17 (F : CF C) {k : Int} (h0 : 0 < k) (h1 : k < 1073741824) : Run (C 17 [.well, .d (.int k)]) fun v => ∃ r : Int, v = .d (.int r) ∧ 0 ≤ r ∧ r < k := ⟨F.h17 k _ h0 h1 fun r a b => ⟨r, rfl, a, b⟩⟩
theorem CF.r18 (F : CF C) {s : D} {xs : List D} (hs : seqOf s = some xs) (h0 : 0 < xs.length) (h1 : xs.length < 1073741824) : Run (C 18 [.well, .d s]) fun v => ∃ x ∈ xs, v = .d x := ⟨F.h18 s xs hs h0 h1⟩
theorem CF.r22 (F : CF C) {xs : List D} (h0 : 0 < xs.length) (h1 : xs.length ≤ 7) : Run (C 22 [.well, .d (.tuple xs)]) fun v => ∃ d, v = .d d := ⟨F.h22 xs h0 h1⟩
def body6 : Sxs := (.cons (.set 7 (.call 20 (.cons (.var 2) (.cons (.var 6) .nil)) [0, 1])) (.cons (.ifs (.not_ (.call 19 (.cons (.lst (.cons (.call 12 (.cons (.var 2) (.cons (.var 6) .nil)) [0, 1]) (.cons (.call 12 (.cons (.var 6) (.cons (.var 2) .nil)) [1, 0]) .nil))) (.cons (.lst (.cons (.var 7) (.cons (.var 7) .nil))) .nil)) [0, 1])) (.cons (.ret (.con (.bool false))) .nil) .nil) .nil))
def bodyOne : Sxs := .cons (.loop (.nm 10) (.rng (.bin .Add (.var 2) (.con (.int 1)))) bodyTwo) .nil
def body23 : Sxs := (.cons (.set 2 (.bin .Add (.con (.int 1)) (.call 17 (.cons (.var 0) (.cons (.con (.int 6)) .nil)) [0, 1]))) (.cons (.set 3 (.call 17 (.cons (.var 0) (.cons (.bin .Add (.var 2) (.con (.int 1))) .nil)) [0, 1])) (.cons (.set 4 (.blt .tuple (.cons (.call 21 (.cons (.var 2) (.cons (.var 3) .nil)) [0, 1]) .nil))) (.cons (.ifs (.not_ (.call 19 (.cons (.lst (.cons (.call 13 (.cons (.var 2) (.cons (.var 3) .nil)) [0, 1]) (.cons (.call 13 (.cons (.var 3) (.cons (.var 2) .nil)) [1, 0]) .nil))) (.cons (.lst (.cons (.var 4) (.cons (.var 4) .nil))) .nil)) [0, 1])) (.cons (.ret (.con (.bool false))) .nil) .nil) (.cons (.set 5 (.call 18 (.cons (.var 0) (.cons (.var 4) .nil)) [0, 1])) (.cons (.loop (.nm 6) (.seq (.bin .Add (.lst (.cons (.var 5) .nil)) (.comp (.call 22 (.cons (.var 0) (.cons (.var 5) .nil)) [0, 1]) (.nm 14) (.rng (.con (.int 9))) .nil [14]))) body6) (.cons (.set 8 (.bin .Add (.con (.int 1)) (.call 17 (.cons (.var 0) (.cons (.con (.int 6)) .nil)) [0, 1]))) (.cons (.ifs (.not_ (.call 19 (.cons (.call 12 (.cons (.var 8) (.cons (.var 5) .nil)) [0, 1]) (.cons (.cmp .Eq (.var 8) (.var 2)) .nil)) [0, 1])) (.cons (.ret (.con (.bool false))) .nil) .nil) (.cons (.loop (.nm 9) (.rng (.bin .Add (.var 2) (.con (.int 1)))) bodyOne) .nil)))))))))
theorem b23_eq : b23 = .cons (.loop (.nm 1) (.rng (.con (.int 6))) body23) (.cons (.ret (.con (.bool true))) .nil) := rfl
def I0 (ρ : Rho) : Prop := ∃ s1 s2 s3 s4 s5 s6 s7 s8 s9 s10 s11 s12 s13 s14 s15 : Option Dv.Slot, ρ = [some (.v .well), s1, s2, s3, s4, s5, s6, s7, s8, s9, s10, s11, s12, s13, s14, s15]
def I1 (tp : Int × Int) (w : D) (ρ : Rho) : Prop := ∃ s1 s6 s7 s8 s9 s10 s11 s12 s13 s14 s15 : Option Dv.Slot, ρ = [some (.v .well), s1, sv (.int tp.1), sv (.int tp.2), sv (.tuple (wishTab tp)), sv w, s6, s7, s8, s9, s10, s11, s12, s13, s14, s15]
def I2 (tp : Int × Int) (w : D) (a : Int) (ρ : Rho) : Prop := ∃ s1 s6 s7 s8 s10 s11 s12 s13 s14 s15 : Option Dv.Slot, ρ = [some (.v .well), s1, sv (.int tp.1), sv (.int tp.2), sv (.tuple (wishTab tp)), sv w, s6, s7, s8, sv (.int a), s10, s11, s12, s13, s14, s15]
theorem rng_mem {n : Int} {x : D} (h : x ∈ rngD 0 n) : ∃ a : Int, x = .int a ∧ 0 ≤ a ∧ a < n := by
  unfold rngD at h
  rcases List.mem_map.mp h with ⟨k, hk, e⟩
  have := List.mem_range.mp hk
  exact ⟨0 + (k : Int), e.symm, by omega, by omega⟩
theorem pairs_bd {tp : Int × Int} (h : tp ∈ pairs) : 1 ≤ tp.1 ∧ tp.1 ≤ 6 := by
  have : pairs.all (fun tp => decide (1 ≤ tp.1) && decide (tp.1 ≤ 6)) = true := by kernel_rfl
  have := List.all_eq_true.mp this tp h
  simp only [Bool.and_eq_true, decide_eq_true_eq] at this
  exact this
theorem evI_rng {ρ : Rho} {top : Int} (h1 : 1 ≤ top) (h6 : top ≤ 6) (e : evalE C (.var 2) ρ = okd (.int top)) : evalI C (.rng (.bin .Add (.var 2) (.con (.int 1)))) ρ = .ok (rngD 0 (top + 1)) := by
  have r1 : decide (-(2 ^ 62) ≤ top + 1) = true := decide_eq_true (by omega)
  have r2 : decide (top + 1 < 2 ^ 62) = true := decide_eq_true (by omega)
  unfold evalI
  rw [ev_bin, e, ev_con]
  simp only [okd, M.bind, Val.asD, asI, bin_add, r1, r2, Bool.and_self, if_true]
theorem run_two (F : CF C) {tp : Int × Int} (h : tp ∈ pairs) {w : D} (hw : w ∈ wishTab tp) {a : Int} (a1 : 0 ≤ a) (a2 : a ≤ tp.1) {ρ : Rho} (hi : I2 tp w a ρ) : Run (evalSs C bodyOne ρ) fun p => p.2 = .nx ∧ I2 tp w a p.1 := by
  refine seq_run (I := I2 tp w a) ?_ fun ρ h => .ok ⟨rfl, h⟩
  refine loop_run (xs := rngD 0 (tp.1 + 1)) ?_ (fun x hx ρ' hr => ?_) hi
  · rcases hi with ⟨s1, s6, s7, s8, s10, s11, s12, s13, s14, s15, rfl⟩
    exact evI_rng (pairs_bd h).1 (pairs_bd h).2 rfl
  · rcases rng_mem hx with ⟨b, rfl, b1, b2⟩
    rcases hr with ⟨s1, s6, s7, s8, s10, s11, s12, s13, s14, s15, rfl⟩
    refine .of_eq (lap_two F h hw a1 a2 b1 (by omega) s1 s6 s7 s8 s10 s11 s12 s13 s14 s15) ⟨rfl, ?_⟩
    exact ⟨_, _, _, _, _, _, _, _, _, _, rfl⟩
theorem run_one (F : CF C) {tp : Int × Int} (h : tp ∈ pairs) {w : D} (hw : w ∈ wishTab tp) {ρ : Rho} (hi : I1 tp w ρ) : Run (evalS C (.loop (.nm 9) (.rng (.bin .Add (.var 2) (.con (.int 1)))) bodyOne) ρ) fun p => p.2 = .nx ∧ I1 tp w p.1 := by
  refine loop_run (xs := rngD 0 (tp.1 + 1)) ?_ (fun x hx ρ' hr => ?_) hi
  · rcases hi with ⟨s1, s6, s7, s8, s9, s10, s11, s12, s13, s14, s15, rfl⟩
    exact evI_rng (pairs_bd h).1 (pairs_bd h).2 rfl
  · rcases rng_mem hx with ⟨a, rfl, a1, a2⟩
    rcases hr with ⟨s1, s6, s7, s8, s9, s10, s11, s12, s13, s14, s15, rfl⟩
    simp only [lap, asgD, M.bind, List.set_cons_zero, List.set_cons_succ]
    refine (run_two F h hw a1 (by omega) ⟨_, _, _, _, _, _, _, _, _, _, rfl⟩).mono fun p hp => ⟨hp.1, ?_⟩
    rcases hp.2 with ⟨s1, s6, s7, s8, s10, s11, s12, s13, s14, s15, e⟩
    exact ⟨_, _, _, _, _, _, _, _, _, _, _, e⟩
theorem run_six (F : CF C) {tp : Int × Int} (h : tp ∈ pairs) {w : D} {x : D} {ρ : Rho} (hi : I1 tp w ρ) : Run (lap C (.nm 6) body6 x ρ) fun p => p.2 = .nx ∧ I1 tp w p.1 := by
  rcases hi with ⟨s1, s6, s7, s8, s9, s10, s11, s12, s13, s14, s15, rfl⟩
  have hb := pairs_bd h
  have c20 := F.h20 tp.1 x (by omega) hb.2
  have c12 := F.h12 tp.1 x hb.1 hb.2
  have r := F.h19 _ (rep_bools (isWishV tp.1 x))
  have l2 : lim 2 = true := rfl
  refine .of_eq (a := ([some (.v .well), s1, sv (.int tp.1), sv (.int tp.2), sv (.tuple (wishTab tp)), sv w, sv x, sv (.bool (isWishV tp.1 x)), s8, s9, s10, s11, s12, s13, s14, s15], .nx)) ?_ ⟨rfl, _, _, _, _, _, _, _, _, _, _, _, rfl⟩
  simp [lap, body6, asgD, sv, ev_var, ev_rd, ev_con, ev_tup, ev_lst, ev_bin, ev_neg, ev_not, ev_and, ev_or, ev_cmp, ev_chain, ev_ite, ev_call, ev_blt, ev_isa, ev_mth, ev_idx, ev_slc, ev_rev, ev_mkw, ev_comp, es_set, es_own, es_asg, es_par, es_ifs, es_ret, es_retn, es_pass, es_cont, es_exp, es_frz, es_loopL, ss_nil, ss_cons, evalDs, evalVs, evalT, evalO, evalI, M.bind, getV, getR, rhoOf, Val.asD, asB, asI, pickK, okd, endM, c20, c12, gd, l2, r]
theorem wish_len {tp : Int × Int} (h : tp ∈ pairs) {w : D} (hw : w ∈ wishTab tp) : isWishV tp.1 w = true ∧ ∃ xs, w = .tuple xs ∧ 0 < xs.length ∧ xs.length ≤ 7 := by
  have hb := pairs_bd h
  have e := (ix_ok h hw (a := 0) (by omega) (by omega)).2
  rcases wish_tup e with ⟨xs, e1, e2⟩
  exact ⟨e, xs, e1, by omega, by omega⟩
theorem wish_other {tp : Int × Int} {w : D} (h : isWishV tp.1 w = true) {o : Int} : isWishV o w = decide (o = tp.1) := by
  by_cases e : o = tp.1
  · rw [e, h]; simp
  · rcases wish_tup h with ⟨xs, e1, e2⟩
    subst e1
    have : decide ((xs.length : Int) = o + 1) = false := decide_eq_false (by omega)
    rw [decide_eq_false e]
    show (decide ((xs.length : Int) = o + 1) && _) = false
    rw [this, Bool.false_and]
theorem run_rest (F : CF C) {tp : Int × Int} (h : tp ∈ pairs) {w : D} (hw : w ∈ wishTab tp) {ρ : Rho} (hi : I1 tp w ρ) : Run (evalSs C (.cons (.set 8 (.bin .Add (.con (.int 1)) (.call 17 (.cons (.var 0) (.cons (.con (.int 6)) .nil)) [0, 1]))) (.cons (.ifs (.not_ (.call 19 (.cons (.call 12 (.cons (.var 8) (.cons (.var 5) .nil)) [0, 1]) (.cons (.cmp .Eq (.var 8) (.var 2)) .nil)) [0, 1])) (.cons (.ret (.con (.bool false))) .nil) .nil) (.cons (.loop (.nm 9) (.rng (.bin .Add (.var 2) (.con (.int 1)))) bodyOne) .nil))) ρ) fun p => p.2 = .nx ∧ I0 p.1 := by
  refine seq_run (I := fun ρ => ∃ (o : Int) (s1 s6 s7 s9 s10 s11 s12 s13 s14 s15 : Option Dv.Slot), 1 ≤ o ∧ o ≤ 6 ∧ ρ = [some (.v .well), s1, sv (.int tp.1), sv (.int tp.2), sv (.tuple (wishTab tp)), sv w, s6, s7, sv (.int o), s9, s10, s11, s12, s13, s14, s15]) ?_ fun ρ hr => ?_
  · rcases hi with ⟨s1, s6, s7, s8, s9, s10, s11, s12, s13, s14, s15, rfl⟩
    simp only [ev_var, ev_rd, ev_con, ev_tup, ev_lst, ev_bin, ev_neg, ev_not, ev_and, ev_or, ev_cmp, ev_chain, ev_ite, ev_call, ev_blt, ev_isa, ev_mth, ev_idx, ev_slc, ev_rev, ev_mkw, ev_comp, es_set, es_own, es_asg, es_par, es_ifs, es_ret, es_retn, es_pass, es_cont, es_exp, es_frz, es_loopL, ss_nil, ss_cons, evalDs, evalVs, evalT, evalO, evalI, M.bind, getV, getR, rhoOf, Val.asD, asB, asI, pickK, okd, endM, M.bind_assoc, List.getElem?_cons_zero, List.getElem?_cons_succ]
    refine .bindm (F.r17 (by omega) (by omega)) fun v hv => ?_
    rcases hv with ⟨r, rfl, r0, r1⟩
    simp only [M.bind, Val.asD, bin_add, okd, List.set_cons_zero, List.set_cons_succ]
    exact .ok ⟨rfl, 1 + r, _, _, _, _, _, _, _, _, _, _, by omega, by omega, rfl⟩
  · rcases hr with ⟨o, s1, s6, s7, s9, s10, s11, s12, s13, s14, s15, o1, o6, rfl⟩
    have c12 := F.h12 o w o1 o6
    rw [wish_other (wish_len h hw).1] at c12
    have r := F.h19 _ (rep_bool (decide (o = tp.1)))
    have ce := cmp_eq o tp.1
    refine seq_eq (ρ' := [some (.v .well), s1, sv (.int tp.1), sv (.int tp.2), sv (.tuple (wishTab tp)), sv w, s6, s7, sv (.int o), s9, s10, s11, s12, s13, s14, s15]) ?_ ?_
    · generalize decide (o = tp.1) = b at c12 r ce
      simp [sv, ev_var, ev_rd, ev_con, ev_tup, ev_lst, ev_bin, ev_neg, ev_not, ev_and, ev_or, ev_cmp, ev_chain, ev_ite, ev_call, ev_blt, ev_isa, ev_mth, ev_idx, ev_slc, ev_rev, ev_mkw, ev_comp, es_set, es_own, es_asg, es_par, es_ifs, es_ret, es_retn, es_pass, es_cont, es_exp, es_frz, es_loopL, ss_nil, ss_cons, evalDs, evalVs, evalT, evalO, evalI, M.bind, getV, getR, rhoOf, Val.asD, asB, asI, pickK, okd, endM, c12, ce, r]
    · refine seq_run (run_one F h hw ⟨_, _, _, _, _, _, _, _, _, _, _, rfl⟩) fun ρ hr => ?_
      rcases hr with ⟨s1, s6, s7, s8, s9, s10, s11, s12, s13, s14, s15, rfl⟩
      exact .ok ⟨rfl, _, _, _, _, _, _, _, _, _, _, _, _, _, _, _, rfl⟩
end
end DvK
end
section
namespace DvK
open PySem L2 Dv
section
variable {C : CallT}
theorem turn22 (F : CF C) {xs : List D} (h0 : 0 < xs.length) (h7 : xs.length ≤ 7) (s1 s2 s3 s4 s6 s7 s8 s9 s10 s11 s12 s13 s14 s15 : Option Dv.Slot) (x : D) :
    Run (turn C (.call 22 (.cons (.var 0) (.cons (.var 5) .nil)) [0, 1]) (.nm 14) .nil [14] [some (.v .well), s1, s2, s3, s4, sv (.tuple xs), s6, s7, s8, s9, s10, s11, s12, s13, s14, s15] x) fun o => ∃ y, o = some y ∧ True := by
  simp only [turn, asgD, wipeD, sv, ev_var, ev_rd, ev_con, ev_tup, ev_lst, ev_bin, ev_neg, ev_not, ev_and, ev_or, ev_cmp, ev_chain, ev_ite, ev_call, ev_blt, ev_isa, ev_mth, ev_idx, ev_slc, ev_rev, ev_mkw, ev_comp, es_set, es_own, es_asg, es_par, es_ifs, es_ret, es_retn, es_pass, es_cont, es_exp, es_frz, es_loopL, ss_nil, ss_cons, evalDs, evalVs, evalT, evalO, evalI, M.bind, getV, getR, rhoOf, Val.asD, asB, asI, pickK, okd, endM, M.bind_assoc, if_true, List.getElem?_cons_zero, List.getElem?_cons_succ, List.set_cons_zero, List.set_cons_succ]
  refine .bindm (F.r22 h0 h7) fun v hv => ?_
  rcases hv with ⟨d, rfl⟩
  exact .ok ⟨d, rfl, trivial⟩
theorem iter22 (F : CF C) {xs : List D} (h0 : 0 < xs.length) (h7 : xs.length ≤ 7) (s1 s2 s3 s4 s6 s7 s8 s9 s10 s11 s12 s13 s14 s15 : Option Dv.Slot) :
    Run (evalI C (.seq (.bin .Add (.lst (.cons (.var 5) .nil)) (.comp (.call 22 (.cons (.var 0) (.cons (.var 5) .nil)) [0, 1]) (.nm 14) (.rng (.con (.int 9))) .nil [14]))) [some (.v .well), s1, s2, s3, s4, sv (.tuple xs), s6, s7, s8, s9, s10, s11, s12, s13, s14, s15]) fun _ => True := by
  have l1 : lim 1 = true := rfl
  have l9 : lim (rngD 0 9).length = true := rfl
  have r1 : (decide (-(2 ^ 62) ≤ (9 : Int)) && decide ((9 : Int) < 2 ^ 62)) = true := by decide
  have hc := compM_run (xs := rngD 0 9) (P := fun _ => True) fun x _ => turn22 F h0 h7 s1 s2 s3 s4 s6 s7 s8 s9 s10 s11 s12 s13 s14 s15 x
  simp only [ev_var, ev_rd, ev_con, ev_tup, ev_lst, ev_bin, ev_neg, ev_not, ev_and, ev_or, ev_cmp, ev_chain, ev_ite, ev_call, ev_blt, ev_isa, ev_mth, ev_idx, ev_slc, ev_rev, ev_mkw, ev_comp, es_set, es_own, es_asg, es_par, es_ifs, es_ret, es_retn, es_pass, es_cont, es_exp, es_frz, es_loopL, ss_nil, ss_cons, evalDs, evalVs, evalT, evalO, evalI, M.bind, getV, getR, rhoOf, Val.asD, asB, asI, pickK, okd, endM, M.bind_assoc, List.getElem?_cons_zero, List.getElem?_cons_succ, sv, gd, l1, l9, if_true, r1, List.length_cons, List.length_nil, Nat.zero_add] at hc ⊢
  refine .bindm hc.quiet fun l hl => ?_
  have := ladd (a := [.tuple xs]) (b := l) (by rw [hl.1]; show 1 + 9 ≤ 1000; decide)
  simp only [M.bind, this, okd, iterD]
  exact .ok trivial
theorem run_mid (F : CF C) {tp : Int × Int} (h : tp ∈ pairs) {w : D} (hw : w ∈ wishTab tp) {ρ : Rho} (hi : I1 tp w ρ) : Run (evalS C (.loop (.nm 6) (.seq (.bin .Add (.lst (.cons (.var 5) .nil)) (.comp (.call 22 (.cons (.var 0) (.cons (.var 5) .nil)) [0, 1]) (.nm 14) (.rng (.con (.int 9))) .nil [14]))) body6) ρ) fun p => p.2 = .nx ∧ I1 tp w p.1 := by
  rw [es_loopL]
  rcases wish_len h hw with ⟨_, xs, e, l0, l7⟩
  have hi2 := hi
  rcases hi2 with ⟨s1, s6, s7, s8, s9, s10, s11, s12, s13, s14, s15, rfl⟩
  refine .bindm (P := fun _ => True) ?_ fun l _ => forM_inv (fun x _ ρ hr => run_six F h hr) hi
  subst e
  exact iter22 F l0 l7 _ _ _ _ _ _ _ _ _ _ _ _ _ _
theorem tab_len {tp : Int × Int} (h : tp ∈ pairs) : 0 < (wishTab tp).length ∧ (wishTab tp).length ≤ 100 ∧ reprOk (.list [.tuple (wishTab tp), .tuple (wishTab tp)]) = true := by
  have c := ba (List.all_eq_true.mp chk1 tp h)
  have d := ba c.2
  have r := (ba (List.all_eq_true.mp chk2 tp h)).1
  exact ⟨Nat.le_of_ble_eq_true c.1, Nat.le_of_ble_eq_true d.1, repr_of r⟩
theorem run_turn (F : CF C) {x : D} {ρ : Rho} (hi : I0 ρ) : Run (lap C (.nm 1) body23 x ρ) fun p => p.2 = .nx ∧ I0 p.1 := by
  rcases hi with ⟨s1, s2, s3, s4, s5, s6, s7, s8, s9, s10, s11, s12, s13, s14, s15, rfl⟩
  simp only [lap, asgD, M.bind, List.set_cons_zero, List.set_cons_succ]
  refine seq_run (I := fun ρ => ∃ (t : Int), 1 ≤ t ∧ t ≤ 6 ∧ ρ = [some (.v .well), sv x, sv (.int t), s3, s4, s5, s6, s7, s8, s9, s10, s11, s12, s13, s14, s15]) ?_ fun ρ hr => ?_
  · simp only [ev_var, ev_rd, ev_con, ev_tup, ev_lst, ev_bin, ev_neg, ev_not, ev_and, ev_or, ev_cmp, ev_chain, ev_ite, ev_call, ev_blt, ev_isa, ev_mth, ev_idx, ev_slc, ev_rev, ev_mkw, ev_comp, es_set, es_own, es_asg, es_par, es_ifs, es_ret, es_retn, es_pass, es_cont, es_exp, es_frz, es_loopL, ss_nil, ss_cons, evalDs, evalVs, evalT, evalO, evalI, M.bind, getV, getR, rhoOf, Val.asD, asB, asI, pickK, okd, endM, M.bind_assoc, List.getElem?_cons_zero, List.getElem?_cons_succ]
    refine .bindm (F.r17 (by omega) (by omega)) fun v hv => ?_
    rcases hv with ⟨r, rfl, r0, r1⟩
    simp only [M.bind, Val.asD, bin_add, okd, List.set_cons_zero, List.set_cons_succ]
    exact .ok ⟨rfl, 1 + r, by omega, by omega, rfl⟩
  rcases hr with ⟨t, t1, t6, rfl⟩
  refine seq_run (I := fun ρ => ∃ (p : Int), 0 ≤ p ∧ p ≤ t ∧ ρ = [some (.v .well), sv x, sv (.int t), sv (.int p), s4, s5, s6, s7, s8, s9, s10, s11, s12, s13, s14, s15]) ?_ fun ρ hr => ?_
  · simp only [ev_var, ev_rd, ev_con, ev_tup, ev_lst, ev_bin, ev_neg, ev_not, ev_and, ev_or, ev_cmp, ev_chain, ev_ite, ev_call, ev_blt, ev_isa, ev_mth, ev_idx, ev_slc, ev_rev, ev_mkw, ev_comp, es_set, es_own, es_asg, es_par, es_ifs, es_ret, es_retn, es_pass, es_cont, es_exp, es_frz, es_loopL, ss_nil, ss_cons, evalDs, evalVs, evalT, evalO, evalI, M.bind, getV, getR, rhoOf, Val.asD, asB, asI, pickK, okd, endM, sv, M.bind_assoc, List.getElem?_cons_zero, List.getElem?_cons_succ, bin_add]
    refine .bindm (F.r17 (by omega) (by omega)) fun v hv => ?_
    rcases hv with ⟨r, rfl, r0, r1⟩
    exact .ok ⟨rfl, r, by omega, by omega, rfl⟩
  rcases hr with ⟨p, p0, p1, rfl⟩
  have hp : (t, p) ∈ pairs := pairs_mem t1 t6 p0 p1
  have c21 := F.h21 (t, p) hp
  have c13 := F.h13 (t, p) hp
  rcases tab_len hp with ⟨n0, n1, nr⟩
  have r := F.h19 _ nr
  refine seq_eq (ρ' := [some (.v .well), sv x, sv (.int t), sv (.int p), sv (.tuple (wishTab (t, p))), s5, s6, s7, s8, s9, s10, s11, s12, s13, s14, s15]) ?_ ?_
  · have bt : bltD .tuple [.list (wishTab (t, p))] = okd (.tuple (wishTab (t, p))) := rfl
    simp [ev_var, ev_rd, ev_con, ev_tup, ev_lst, ev_bin, ev_neg, ev_not, ev_and, ev_or, ev_cmp, ev_chain, ev_ite, ev_call, ev_blt, ev_isa, ev_mth, ev_idx, ev_slc, ev_rev, ev_mkw, ev_comp, es_set, es_own, es_asg, es_par, es_ifs, es_ret, es_retn, es_pass, es_cont, es_exp, es_frz, es_loopL, ss_nil, ss_cons, evalDs, evalVs, evalT, evalO, evalI, M.bind, getV, getR, rhoOf, Val.asD, asB, asI, pickK, okd, endM, sv, c21, bt]
  refine seq_eq (ρ' := [some (.v .well), sv x, sv (.int t), sv (.int p), sv (.tuple (wishTab (t, p))), s5, s6, s7, s8, s9, s10, s11, s12, s13, s14, s15]) ?_ ?_
  · have l2 : lim 2 = true := rfl
    simp [ev_var, ev_rd, ev_con, ev_tup, ev_lst, ev_bin, ev_neg, ev_not, ev_and, ev_or, ev_cmp, ev_chain, ev_ite, ev_call, ev_blt, ev_isa, ev_mth, ev_idx, ev_slc, ev_rev, ev_mkw, ev_comp, es_set, es_own, es_asg, es_par, es_ifs, es_ret, es_retn, es_pass, es_cont, es_exp, es_frz, es_loopL, ss_nil, ss_cons, evalDs, evalVs, evalT, evalO, evalI, M.bind, getV, getR, rhoOf, Val.asD, asB, asI, pickK, okd, endM, sv, c13, gd, l2, r]
  refine seq_run (I := fun ρ => ∃ w ∈ wishTab (t, p), ρ = [some (.v .well), sv x, sv (.int t), sv (.int p), sv (.tuple (wishTab (t, p))), sv w, s6, s7, s8, s9, s10, s11, s12, s13, s14, s15]) ?_ fun ρ hr => ?_
  · simp only [ev_var, ev_rd, ev_con, ev_tup, ev_lst, ev_bin, ev_neg, ev_not, ev_and, ev_or, ev_cmp, ev_chain, ev_ite, ev_call, ev_blt, ev_isa, ev_mth, ev_idx, ev_slc, ev_rev, ev_mkw, ev_comp, es_set, es_own, es_asg, es_par, es_ifs, es_ret, es_retn, es_pass, es_cont, es_exp, es_frz, es_loopL, ss_nil, ss_cons, evalDs, evalVs, evalT, evalO, evalI, M.bind, getV, getR, rhoOf, Val.asD, asB, asI, pickK, okd, endM, sv, M.bind_assoc, List.getElem?_cons_zero, List.getElem?_cons_succ]
    refine .bindm (F.r18 (s := .tuple (wishTab (t, p))) (xs := wishTab (t, p)) rfl n0 (by omega)) fun v hv => ?_
    rcases hv with ⟨w, hw, rfl⟩
    exact .ok ⟨rfl, w, hw, rfl⟩
  rcases hr with ⟨w, hw, rfl⟩
  refine seq_run (run_mid F hp hw ⟨_, _, _, _, _, _, _, _, _, _, _, rfl⟩) fun ρ hr => ?_
  exact run_rest F hp hw hr
theorem run23 (F : CF C) : Run ((evalSs C b23 (rhoOf 16 [.well])).bind endM) fun v => v = .d (.bool true) := by
  have h0 : rhoOf 16 [.well] = [some (.v .well), none, none, none, none, none, none, none, none, none, none, none, none, none, none, none] := rfl
  have hi : I0 [some (.v .well), none, none, none, none, none, none, none, none, none, none, none, none, none, none, none] := ⟨_, _, _, _, _, _, _, _, _, _, _, _, _, _, _, rfl⟩
  have hx : ∀ ρ, evalI C (.rng (.con (.int 6))) ρ = .ok (rngD 0 6) := fun ρ => by
    simp only [ev_var, ev_rd, ev_con, ev_tup, ev_lst, ev_bin, ev_neg, ev_not, ev_and, ev_or, ev_cmp, ev_chain, ev_ite, ev_call, ev_blt, ev_isa, ev_mth, ev_idx, ev_slc, ev_rev, ev_mkw, ev_comp, es_set, es_own, es_asg, es_par, es_ifs, es_ret, es_retn, es_pass, es_cont, es_exp, es_frz, es_loopL, ss_nil, ss_cons, evalDs, evalVs, evalT, evalO, evalI, M.bind, getV, getR, rhoOf, Val.asD, asB, asI, pickK, okd, endM]
    rfl
  have he : ∀ ρ : Rho, evalSs C (.cons (.ret (.con (.bool true))) .nil) ρ = .ok (ρ, .rt (.d (.bool true))) := fun ρ => by
    simp only [ev_var, ev_rd, ev_con, ev_tup, ev_lst, ev_bin, ev_neg, ev_not, ev_and, ev_or, ev_cmp, ev_chain, ev_ite, ev_call, ev_blt, ev_isa, ev_mth, ev_idx, ev_slc, ev_rev, ev_mkw, ev_comp, es_set, es_own, es_asg, es_par, es_ifs, es_ret, es_retn, es_pass, es_cont, es_exp, es_frz, es_loopL, ss_nil, ss_cons, evalDs, evalVs, evalT, evalO, evalI, M.bind, getV, getR, rhoOf, Val.asD, asB, asI, pickK, okd, endM]
  have hl : ∀ x ∈ rngD 0 6, ∀ ρ, I0 ρ → Run (lap C (.nm 1) body23 x ρ) fun p => p.2 = .nx ∧ I0 p.1 := fun x _ ρ hr => run_turn F hr
  rw [b23_eq, h0]
  generalize [some (Slot.v Val.well), none, none, none, none, none, none, none, none, none, none, none, none, none, none, none] = ρ0 at hi
  generalize body23 = B at hl
  have lr := loop_run (hx ρ0) hl hi
  refine .bind ?_
  refine seq_run lr fun ρ hr => ?_
  rw [he]
  exact .ok (.ok rfl)
end
theorem call_fn2 {T : Tab} {n k np ns : Nat} {b : Sxs} {vs : List Val} (h : T k = some (.fn ⟨np, ns, b⟩)) (hl : np = vs.length) : callN T (n + 1) k vs = (evalSs (callN T n) b (rhoOf ns vs)).bind endM := call_fn h hl
section
variable {T : Tab} (hT : HasT T) (n : Nat)
include hT
theorem g22 {xs : List D} (a : 0 < xs.length) (b : xs.length ≤ 7) : Goes (callN T (n + 6) 22 [.well, .d (.tuple xs)]) (fun v => ∃ d, v = .d d) := by
  rw [call_fn2 hT.t22 rfl]
  exact bent22 (callN T (n + 5)) (fun k Q a b q => f17 hT (n + 4) a b q) (fun s xs hs a b => f18 hT (n + 3) hs a b) a b
theorem cf : CF (callN T (n + 6)) where
  h12 := fun top v a b => f12 hT (n + 1) a b v
  h13 := fun tp h => f13 hT (n + 1) h (pairs_bd h).1 (pairs_bd h).2 (by
    have : pairs.all (fun tp => decide (0 ≤ tp.2) && decide (tp.2 ≤ tp.1)) = true := by kernel_rfl
    have := List.all_eq_true.mp this tp h
    simp only [Bool.and_eq_true, decide_eq_true_eq] at this
    exact this.1) (by
    have : pairs.all (fun tp => decide (0 ≤ tp.2) && decide (tp.2 ≤ tp.1)) = true := by kernel_rfl
    have := List.all_eq_true.mp this tp h
    simp only [Bool.and_eq_true, decide_eq_true_eq] at this
    exact this.2)
  h14 := fun tp a b h a1 a2 b1 b2 => f14 hT (n + 1) h (pairs_bd h).1 (pairs_bd h).2 (by
    have : pairs.all (fun tp => decide (0 ≤ tp.2) && decide (tp.2 ≤ tp.1)) = true := by kernel_rfl
    have := List.all_eq_true.mp this tp h
    simp only [Bool.and_eq_true, decide_eq_true_eq] at this
    exact this.1) (by
    have : pairs.all (fun tp => decide (0 ≤ tp.2) && decide (tp.2 ≤ tp.1)) = true := by kernel_rfl
    have := List.all_eq_true.mp this tp h
    simp only [Bool.and_eq_true, decide_eq_true_eq] at this
    exact this.2) a1 a2 b1 b2
  h15 := fun tp w a b h hw a1 a2 b1 b2 => f15 hT (n + 1) h (pairs_bd h).1 (pairs_bd h).2 hw a1 a2 b1 b2
  h17 := fun k Q a b q => f17 hT (n + 5) a b q
  h18 := fun s xs hs a b => f18 hT (n + 4) hs a b
  h19 := fun x h => f19 hT (n + 5) h
  h20 := fun top v a b => f20 hT (n + 5) a b v
  h21 := fun tp h => f21 hT (n + 5) h
  h22 := fun xs a b => (g22 hT n a b).run
theorem run23c : Run (callN T (n + 7) 23 [.well]) fun v => v = .d (.bool true) := by
  rw [call_fn2 hT.t23 rfl]
  exact run23 (cf hT n)
omit hT in
theorem law24r (C : CallT) (ns : List Int) (h16 : ∀ l : Int, 0 ≤ l → C 16 [.d (intsD ns), .d (.int l)] = .ok .well) (h23 : (C 23 [.well]).Sat (fun v => v = .d (.bool true)) (fun _ _ => False)) : Run ((evalSs C b24 (rhoOf 2 [.d (intsD ns)])).bind endM) (fun v => v = .d (.bool true)) := by
  refine Exists.elim (count3 ns.length) fun m z => ?_
  refine Exists.elim z.2.2 fun q y => ?_
  refine law24b C ns m q z.1 z.2.1 y.1 y.2 ?_
  exact law24a C ns h16 h23 m
theorem law_ok (ns : List Int) : Run (callN T (n + 8) 24 [.d (intsD ns)]) fun v => v = .d (.bool true) := by
  rw [call_fn2 hT.t24 rfl]
  exact law24r (callN T (n + 7)) ns (fun l h => f16 hT (n + 6) ns h) (run23c hT n).sat
end
end DvK
end
section
set_option maxHeartbeats 0
namespace DvK
open PySem PySem.Spec PyProof.Rows L2 Dv
abbrev PG : Program := PySem.Challenge.pw_levelvotes_k06_whole_wishes
def topS (i : Nat) : Stmt := PG.main.body.getD i (.Pass ⟨0, 0, 0, 0⟩)
def r1 : RowD := ⟨topS 6, Str.ofString "is_whole", 1, [Str.ofString "value"], [Str.ofString "value"], [], false, .fn ⟨1, 1, b1⟩⟩
def r2 : RowD := ⟨topS 7, Str.ofString "is_number", 2, [Str.ofString "value", Str.ofString "low", Str.ofString "high"], [Str.ofString "value", Str.ofString "low", Str.ofString "high"], [], false, .fn ⟨3, 3, b2⟩⟩
def r3 : RowD := ⟨topS 8, Str.ofString "check_number", 3, [Str.ofString "value", Str.ofString "low", Str.ofString "high"], [Str.ofString "value", Str.ofString "low", Str.ofString "high"], [], false, .fn ⟨3, 3, b3⟩⟩
def r4 : RowD := ⟨topS 9, Str.ofString "is_tuple_of", 4, [Str.ofString "value", Str.ofString "many"], [Str.ofString "value", Str.ofString "many"], [], false, .fn ⟨2, 2, b4⟩⟩
def r5 : RowD := ⟨topS 11, Str.ofString "is_level", 5, [Str.ofString "top", Str.ofString "value"], [Str.ofString "top", Str.ofString "value"], [], false, .fn ⟨2, 2, b5⟩⟩
def r6 : RowD := ⟨topS 14, Str.ofString "check_top", 6, [Str.ofString "value"], [Str.ofString "value"], [], false, .fn ⟨1, 1, b6⟩⟩
def r7 : RowD := ⟨topS 15, Str.ofString "check_level", 7, [Str.ofString "top", Str.ofString "value"], [Str.ofString "top", Str.ofString "value"], [], false, .fn ⟨2, 2, b7⟩⟩
def r8 : RowD := ⟨topS 17, Str.ofString "is_wish_for", 8, [Str.ofString "top", Str.ofString "value"], [Str.ofString "top", Str.ofString "value", Str.ofString "low", Str.ofString "high", Str.ofString "level", Str.ofString "each"], [], false, .fn ⟨2, 6, b8⟩⟩
def r9 : RowD := ⟨topS 18, Str.ofString "all_wishes", 9, [Str.ofString "top", Str.ofString "peak"], [Str.ofString "top", Str.ofString "peak", Str.ofString "found", Str.ofString "turn", Str.ofString "longer", Str.ofString "wish"], [4], false, .fn ⟨2, 6, b9⟩⟩
def r10 : RowD := ⟨topS 19, Str.ofString "likes_better", 10, [Str.ofString "wish", Str.ofString "level", Str.ofString "other"], [Str.ofString "wish", Str.ofString "level", Str.ofString "other"], [], false, .fn ⟨3, 3, b10⟩⟩
def r11 : RowD := ⟨topS 20, Str.ofString "wish_with", 11, [Str.ofString "top", Str.ofString "peak", Str.ofString "better", Str.ofString "worse"], [Str.ofString "top", Str.ofString "peak", Str.ofString "better", Str.ofString "worse", Str.ofString "wish"], [], false, .fn ⟨4, 5, b11⟩⟩
def r12 : RowD := ⟨topS 22, Str.ofString "is_wish", 12, [Str.ofString "top", Str.ofString "value"], [Str.ofString "top", Str.ofString "value"], [], false, .fn ⟨2, 2, b12⟩⟩
def r13 : RowD := ⟨topS 23, Str.ofString "wishes", 13, [Str.ofString "top", Str.ofString "peak"], [Str.ofString "top", Str.ofString "peak"], [], false, .fn ⟨2, 2, b13⟩⟩
def r14 : RowD := ⟨topS 24, Str.ofString "wish_by", 14, [Str.ofString "top", Str.ofString "peak", Str.ofString "better", Str.ofString "worse"], [Str.ofString "top", Str.ofString "peak", Str.ofString "better", Str.ofString "worse", Str.ofString "level"], [], false, .fn ⟨4, 5, b14⟩⟩
def r15 : RowD := ⟨topS 25, Str.ofString "is_better", 15, [Str.ofString "wish", Str.ofString "level", Str.ofString "level2"], [Str.ofString "wish", Str.ofString "level", Str.ofString "level2"], [], false, .fn ⟨3, 3, b15⟩⟩
def r16 : RowD := ⟨topS 27, Str.ofString "_law_well", 16, [Str.ofString "script", Str.ofString "lap"], [Str.ofString "script", Str.ofString "lap", Str.ofString "stirred", Str.ofString "cell", Str.ofString "own"], [], true, .fn ⟨2, 5, b16⟩⟩
def r17 : RowD := ⟨topS 28, Str.ofString "_law_draw", 17, [Str.ofString "well", Str.ofString "limit"], [Str.ofString "well", Str.ofString "limit", Str.ofString "figure", Str.ofString "mixed"], [0], false, .draw⟩
def r18 : RowD := ⟨topS 29, Str.ofString "_law_of", 18, [Str.ofString "well", Str.ofString "some"], [Str.ofString "well", Str.ofString "some"], [], false, .fn ⟨2, 2, b18⟩⟩
def r19 : RowD := ⟨topS 30, Str.ofString "_law_is", 19, [Str.ofString "told", Str.ofString "due"], [Str.ofString "told", Str.ofString "due"], [], false, .fn ⟨2, 2, b19⟩⟩
def r20 : RowD := ⟨topS 31, Str.ofString "_law_is_wish", 20, [Str.ofString "top", Str.ofString "value"], [Str.ofString "top", Str.ofString "value", Str.ofString "many", Str.ofString "some", Str.ofString "each"], [], false, .fn ⟨2, 5, b20⟩⟩
def r21 : RowD := ⟨topS 32, Str.ofString "_law_wishes", 21, [Str.ofString "top", Str.ofString "peak"], [Str.ofString "top", Str.ofString "peak", Str.ofString "found", Str.ofString "turn", Str.ofString "more", Str.ofString "row", Str.ofString "level"], [], false, .fn ⟨2, 7, b21⟩⟩
def r22 : RowD := ⟨topS 33, Str.ofString "_law_bent", 22, [Str.ofString "well", Str.ofString "value"], [Str.ofString "well", Str.ofString "value", Str.ofString "at", Str.ofString "to", Str.ofString "some", Str.ofString "low", Str.ofString "high", Str.ofString "swapped", Str.ofString "each"], [], false, .fn ⟨2, 9, b22⟩⟩
def r23 : RowD := ⟨topS 34, Str.ofString "_law_right", 23, [Str.ofString "well"], [Str.ofString "well", Str.ofString "turn", Str.ofString "top", Str.ofString "peak", Str.ofString "every", Str.ofString "wish", Str.ofString "value", Str.ofString "due", Str.ofString "other", Str.ofString "one", Str.ofString "two", Str.ofString "fit", Str.ofString "had", Str.ofString "ahead", Str.ofString "lap", Str.ofString "own"], [], false, .fn ⟨1, 16, b23⟩⟩
def r24 : RowD := ⟨topS 35, Str.ofString "law", 24, [Str.ofString "script"], [Str.ofString "script", Str.ofString "lap"], [], false, .fn ⟨1, 2, b24⟩⟩
def rows : List RowD := [r1, r2, r3, r4, r5, r6, r7, r8, r9, r10, r11, r12, r13, r14, r15, r16, r17, r18, r19, r20, r21, r22, r23, r24]
def fnsT : List (Str × Nat × List Str) := [(Str.ofString "is_whole", 1, [Str.ofString "value"]), (Str.ofString "is_number", 2, [Str.ofString "value", Str.ofString "low", Str.ofString "high"]), (Str.ofString "check_number", 3, [Str.ofString "value", Str.ofString "low", Str.ofString "high"]), (Str.ofString "is_tuple_of", 4, [Str.ofString "value", Str.ofString "many"]), (Str.ofString "is_level", 5, [Str.ofString "top", Str.ofString "value"]), (Str.ofString "check_top", 6, [Str.ofString "value"]), (Str.ofString "check_level", 7, [Str.ofString "top", Str.ofString "value"]), (Str.ofString "is_wish_for", 8, [Str.ofString "top", Str.ofString "value"]), (Str.ofString "all_wishes", 9, [Str.ofString "top", Str.ofString "peak"]), (Str.ofString "likes_better", 10, [Str.ofString "wish", Str.ofString "level", Str.ofString "other"]), (Str.ofString "wish_with", 11, [Str.ofString "top", Str.ofString "peak", Str.ofString "better", Str.ofString "worse"]), (Str.ofString "is_wish", 12, [Str.ofString "top", Str.ofString "value"]), (Str.ofString "wishes", 13, [Str.ofString "top", Str.ofString "peak"]), (Str.ofString "wish_by", 14, [Str.ofString "top", Str.ofString "peak", Str.ofString "better", Str.ofString "worse"]), (Str.ofString "is_better", 15, [Str.ofString "wish", Str.ofString "level", Str.ofString "level2"]), (Str.ofString "_law_well", 16, [Str.ofString "script", Str.ofString "lap"]), (Str.ofString "_law_draw", 17, [Str.ofString "well", Str.ofString "limit"]), (Str.ofString "_law_of", 18, [Str.ofString "well", Str.ofString "some"]), (Str.ofString "_law_is", 19, [Str.ofString "told", Str.ofString "due"]), (Str.ofString "_law_is_wish", 20, [Str.ofString "top", Str.ofString "value"]), (Str.ofString "_law_wishes", 21, [Str.ofString "top", Str.ofString "peak"]), (Str.ofString "_law_bent", 22, [Str.ofString "well", Str.ofString "value"]), (Str.ofString "_law_right", 23, [Str.ofString "well"]), (Str.ofString "law", 24, [Str.ofString "script"])]
def consT : List (Str × PyData) := [(Str.ofString "MOST_TOP", (.int 6))]
theorem fns_eq : fnsOf rows = fnsT := rfl
theorem ok1 : RowOk fnsT consT r1 := ⟨by kernel_rfl, rfl, rfl, by kernel_rfl⟩
theorem ok2 : RowOk fnsT consT r2 := ⟨by kernel_rfl, rfl, rfl, by kernel_rfl⟩
theorem ok3 : RowOk fnsT consT r3 := ⟨by kernel_rfl, rfl, rfl, by kernel_rfl⟩
theorem ok4 : RowOk fnsT consT r4 := ⟨by kernel_rfl, rfl, rfl, by kernel_rfl⟩
theorem ok5 : RowOk fnsT consT r5 := ⟨by kernel_rfl, rfl, rfl, by kernel_rfl⟩
theorem ok6 : RowOk fnsT consT r6 := ⟨by kernel_rfl, rfl, rfl, by kernel_rfl⟩
theorem ok7 : RowOk fnsT consT r7 := ⟨by kernel_rfl, rfl, rfl, by kernel_rfl⟩
theorem ok8 : RowOk fnsT consT r8 := ⟨by kernel_rfl, rfl, rfl, by kernel_rfl⟩
theorem ok9 : RowOk fnsT consT r9 := ⟨by kernel_rfl, rfl, rfl, by kernel_rfl⟩
theorem ok10 : RowOk fnsT consT r10 := ⟨by kernel_rfl, rfl, rfl, by kernel_rfl⟩
theorem ok11 : RowOk fnsT consT r11 := ⟨by kernel_rfl, rfl, rfl, by kernel_rfl⟩
theorem ok12 : RowOk fnsT consT r12 := ⟨by kernel_rfl, rfl, rfl, by kernel_rfl⟩
theorem ok13 : RowOk fnsT consT r13 := ⟨by kernel_rfl, rfl, rfl, by kernel_rfl⟩
theorem ok14 : RowOk fnsT consT r14 := ⟨by kernel_rfl, rfl, rfl, by kernel_rfl⟩
theorem ok15 : RowOk fnsT consT r15 := ⟨by kernel_rfl, rfl, rfl, by kernel_rfl⟩
theorem ok16 : RowOk fnsT consT r16 := ⟨by kernel_rfl, rfl, rfl, by kernel_rfl⟩
theorem ok17 : RowOk fnsT consT r17 := ⟨by kernel_rfl, rfl, rfl, by kernel_rfl⟩
theorem ok18 : RowOk fnsT consT r18 := ⟨by kernel_rfl, rfl, rfl, by kernel_rfl⟩
theorem ok19 : RowOk fnsT consT r19 := ⟨by kernel_rfl, rfl, rfl, by kernel_rfl⟩
theorem ok20 : RowOk fnsT consT r20 := ⟨by kernel_rfl, rfl, rfl, by kernel_rfl⟩
theorem ok21 : RowOk fnsT consT r21 := ⟨by kernel_rfl, rfl, rfl, by kernel_rfl⟩
theorem ok22 : RowOk fnsT consT r22 := ⟨by kernel_rfl, rfl, rfl, by kernel_rfl⟩
theorem ok23 : RowOk fnsT consT r23 := ⟨by kernel_rfl, rfl, rfl, by kernel_rfl⟩
theorem ok24 : RowOk fnsT consT r24 := ⟨by kernel_rfl, rfl, rfl, by kernel_rfl⟩
theorem ok_all : ∀ r ∈ rows, RowOk (fnsOf rows) consT r := by
  rw [fns_eq]
  intro r hr
  simp only [rows, List.mem_cons, List.not_mem_nil, or_false] at hr
  rcases hr with rfl | rfl | rfl | rfl | rfl | rfl | rfl | rfl | rfl | rfl | rfl | rfl | rfl | rfl | rfl | rfl | rfl | rfl | rfl | rfl | rfl | rfl | rfl | rfl
  · exact ok1
  · exact ok2
  · exact ok3
  · exact ok4
  · exact ok5
  · exact ok6
  · exact ok7
  · exact ok8
  · exact ok9
  · exact ok10
  · exact ok11
  · exact ok12
  · exact ok13
  · exact ok14
  · exact ok15
  · exact ok16
  · exact ok17
  · exact ok18
  · exact ok19
  · exact ok20
  · exact ok21
  · exact ok22
  · exact ok23
  · exact ok24
theorem ids_nodup : (rows.map RowD.id).Nodup := by decide
def loose0 : List Str := ["is_whole", "is_number", "check_number", "is_tuple_of", "is_level", "check_top", "check_level", "is_wish_for", "all_wishes", "likes_better", "wish_with", "is_wish", "wishes", "wish_by", "is_better", "_law_well", "_law_draw", "_law_of", "_law_is", "_law_is_wish", "_law_wishes", "_law_bent", "_law_right", "MOST_TOP", "LevelError", "InvalidLevel", "InvalidNumber", "InvalidWish"]
def looseT : List Str := loose0
abbrev R : PySem.W.OpenRow := PySem.W.OpenLaw.row PySem.Challenge.rw_levelvotes_k06_whole_wishes
abbrev fa : List He.Fa := factsOf rows consT
abbrev fn : List He.DefD := rows.map defOf
abbrev hk : PySem.W.Hook := He.hookD 4 fa fn
def ob (s : PySem.W.SharedT) : He.AlD := He.obsDG 4 fa fn (HandSHeadRun.getT s)
theorem ob_eq (s : PySem.W.SharedT) : ob s = hk.obs s.abs := He.obsDG_eq (HandSHeadRun.getT_eq s)
theorem run (w : World) : HandSHeadRun.RunEq R (PySem.W.view R.prog [35]) hk ob 2040 looseT w := by
  intro os
  kernel_rfl

end DvK
end
section
set_option maxHeartbeats 0
namespace DvK
open PySem PySem.Spec PyProof.Rows L2 Dv
theorem m24 : r24 ∈ rows := List.mem_of_getElem? (i := 23) rfl
theorem p24 : r24.ps = [Str.ofString "script"] := rfl
theorem room40 : Room 40 callerA := ⟨rfl, by decide, by decide⟩
theorem cons_ok {K : PySem.W.Frag} {h : Heap} {mg : Str → Option Value} (X : K.In h) (G : h.Ns mainGlobals mg) (c : He.SaysD fa fn K) : ConsOk K mg consT := fun x d e => cons_flat X G c (by kernel_rfl) e
theorem hasT : HasT (tabOf rows) := ⟨tab_at (r := r1) (List.mem_of_getElem? (i := 0) rfl) ids_nodup, tab_at (r := r2) (List.mem_of_getElem? (i := 1) rfl) ids_nodup, tab_at (r := r3) (List.mem_of_getElem? (i := 2) rfl) ids_nodup, tab_at (r := r4) (List.mem_of_getElem? (i := 3) rfl) ids_nodup, tab_at (r := r5) (List.mem_of_getElem? (i := 4) rfl) ids_nodup, tab_at (r := r6) (List.mem_of_getElem? (i := 5) rfl) ids_nodup, tab_at (r := r7) (List.mem_of_getElem? (i := 6) rfl) ids_nodup, tab_at (r := r8) (List.mem_of_getElem? (i := 7) rfl) ids_nodup, tab_at (r := r9) (List.mem_of_getElem? (i := 8) rfl) ids_nodup, tab_at (r := r10) (List.mem_of_getElem? (i := 9) rfl) ids_nodup, tab_at (r := r11) (List.mem_of_getElem? (i := 10) rfl) ids_nodup, tab_at (r := r12) (List.mem_of_getElem? (i := 11) rfl) ids_nodup, tab_at (r := r13) (List.mem_of_getElem? (i := 12) rfl) ids_nodup, tab_at (r := r14) (List.mem_of_getElem? (i := 13) rfl) ids_nodup, tab_at (r := r15) (List.mem_of_getElem? (i := 14) rfl) ids_nodup, tab_at (r := r16) (List.mem_of_getElem? (i := 15) rfl) ids_nodup, tab_at (r := r17) (List.mem_of_getElem? (i := 16) rfl) ids_nodup, tab_at (r := r18) (List.mem_of_getElem? (i := 17) rfl) ids_nodup, tab_at (r := r19) (List.mem_of_getElem? (i := 18) rfl) ids_nodup, tab_at (r := r20) (List.mem_of_getElem? (i := 19) rfl) ids_nodup, tab_at (r := r21) (List.mem_of_getElem? (i := 20) rfl) ids_nodup, tab_at (r := r22) (List.mem_of_getElem? (i := 21) rfl) ids_nodup, tab_at (r := r23) (List.mem_of_getElem? (i := 22) rfl) ids_nodup, tab_at (r := r24) (List.mem_of_getElem? (i := 23) rfl) ids_nodup⟩
theorem law_all {T : Tab} (h : HasT T) : LawOk T 40 24 63 := ⟨fun ns _ => (law_ok h 32 ns).sat⟩
theorem law_pure : LawOk (tabOf rows) 40 r24.id 63 := law_all hasT
end DvK
open PySem PySem.W PySem.Calls PyProof.Rows
theorem PySem.Challenge.cw_levelvotes_k06_whole_wishes_holds : PySem.Challenge.rw_levelvotes_k06_whole_wishes.Holds := by
  w_on; o_law
  refine HandSHeadRun.head_any (r := OpenLaw.row PySem.Challenge.rw_levelvotes_k06_whole_wishes) (q := view (OpenLaw.row PySem.Challenge.rw_levelvotes_k06_whole_wishes).prog [35]) (H := DvK.hk) (ob := DvK.ob) (M := 2040) (loose := DvK.looseT) (d := HandSHeadRun.topDef (OpenLaw.row PySem.Challenge.rw_levelvotes_k06_whole_wishes).prog 35) (kwd := []) DvK.ob_eq
    (by kernel_rfl) (fun s => by kernel_rfl) DvK.run (by kernel_rfl) (by kernel_rfl) (by kernel_rfl) (by rfl) (by first | assumption | decide +kernel) (by decide +kernel) ⟨rfl, rfl, rfl, rfl, rfl, by decide +kernel⟩ ?hw ?hc
  case hw => w_witness2
  case hc =>
    refine Dv.walkG (l := PySem.Challenge.rw_levelvotes_k06_whole_wishes) (n := 63) (k := 40) (x := PySem.Str.ofString "script") rfl (by decide) (by kernel_rfl) DvK.room40 ?F
    intro w mg fa h Y G hmg0
    obtain ⟨K, KX, c⟩ := Y
    have hmg : mg DvK.r24.name = some (.ref fa) := by
      have e : (HandSHeadRun.topDef (OpenLaw.row PySem.Challenge.rw_levelvotes_k06_whole_wishes).prog 35).name = DvK.r24.name := by kernel_rfl
      rw [← e]
      exact hmg0
    exact Dv.text_law (P := PySem.Challenge.rw_levelvotes_k06_whole_wishes.prog) (w := w) KX G c DvK.ok_all DvK.ids_nodup (DvK.cons_ok KX G c) DvK.m24 DvK.p24 hmg DvK.law_pure
end
