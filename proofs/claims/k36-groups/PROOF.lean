import PyProof.Rows.All
import PySem.Str
import Wide.All
import OpenK.AllK
import Wide.FinOn
import HandS.ForExc
import HandS.Iter
import HandS.Comp
import HandS.Text
import HandS.Flow
import HandS.Deep
import HandS.IsInst
import HandS.WideBits
import HandS.Wide
import HandS.TupAny
import HandS.TupMul
import HandS.Zip
import HandS.Conv
import HandS.Style
import HandS.More
import HandS.TryMany
import HandS.ExcIs
import HandS.CallLocal
import HandS.CallSlots
import HandS.Star
import HandS.RevRange
import HandS.Zip0
import HandS.EndBits
import HandS.Defaults
import HandS.Words
import HandS.WordsExc
import HandS.HeadEnd
import HandS.HeadHook1
import HandS.HeadHook2
import HandS.HeadHook4
import KE.KStateDown
import HandS.Head0
import HandS.Head1
import HandS.Head2
import PySem.Challenge.RW_underlights_k36_groups
set_option Elab.async false
set_option linter.all false
set_option maxRecDepth 100000
set_option maxHeartbeats 0
/-! EvCore: a small language of data (no heap but a store of shared cells), its evaluator. No program, no model in sight. -/
namespace EV
open PySem

/-- data: None, bools, ints, texts, tuples, lists as they stand, a shared list (cell), a def, an exception -/
inductive D where
  | non
  | bl (b : Bool)
  | int (i : Int)
  | str (x : Str)
  | tup (ds : List D)
  | lst (ds : List D)
  | cell (n : Nat)
  | fn (f : Nat)
  | exc (c : Nat)
  | obj (n : Nat)
  | scr (ns : List Int)

/-- a shared list; an instance with its fields -/
inductive Cell where
  | lst (ds : List D)
  | ins (fs : List D)
/-- the store -/
abbrev Sto := List Cell
inductive Res (α : Type) where
  | ok (a : α) (s : Sto)
  | exc (c : Nat) (s : Sto)
  | stuck
abbrev M (α : Type) := Sto → Res α
namespace M
def ret {α : Type} (a : α) : M α := fun s => .ok a s
def bnd {α β : Type} (m : M α) (f : α → M β) : M β := fun s => match m s with
  | .ok a s' => f a s'
  | .exc c s' => .exc c s'
  | .stuck => .stuck
def raise {α : Type} (c : Nat) : M α := fun s => .exc c s
def stuck {α : Type} : M α := fun _ => .stuck
/-- an exception is not let through -/
def calm {α : Type} (m : M α) : M α := fun s => match m s with
  | .exc _ _ => .stuck
  | r => r
end M
instance : Monad M where
  pure := M.ret
  bind := M.bnd

theorem M.pure_bnd {α β : Type} (a : α) (f : α → M β) : (pure a : M α) >>= f = f a := rfl
theorem M.bnd_pure {α : Type} (m : M α) : (m >>= fun a => (pure a : M α)) = m := by
  funext s
  show M.bnd m (fun a => M.ret a) s = m s
  unfold M.bnd
  cases m s <;> rfl
theorem M.bnd_assoc {α β γ : Type} (m : M α) (f : α → M β) (g : β → M γ) : (m >>= f) >>= g = m >>= fun a => f a >>= g := by
  funext s
  show M.bnd (M.bnd m f) g s = M.bnd m (fun a => M.bnd (f a) g) s
  unfold M.bnd
  cases m s <;> rfl
theorem M.raise_bnd {α β : Type} (c : Nat) (f : α → M β) : (M.raise c : M α) >>= f = M.raise c := rfl
theorem M.stuck_bnd {α β : Type} (f : α → M β) : (M.stuck : M α) >>= f = M.stuck := rfl
instance : LawfulMonad M := LawfulMonad.mk' _ (fun m => M.bnd_pure m) (fun a f => M.pure_bnd a f) (fun m f g => M.bnd_assoc m f g)
/-- the longest list, text -/
def lim : Nat := 2 ^ 24
def mx : Int := 2 ^ 62

/-! ### texts -/
def sLen (x : Str) : Nat := x.cps.size
def sApp (x y : Str) : Str := ⟨x.cps ++ y.cps⟩

/-! ### equality -/
mutual
def eqv : D → D → Bool
  | .non, .non => true
  | .bl a, .bl b => a == b
  | .bl a, .int j => (if a then 1 else 0) == j
  | .int i, .bl b => i == (if b then 1 else 0)
  | .int i, .int j => i == j
  | .str x, .str y => x == y
  | .lst xs, .lst ys => eqvs xs ys
  | .tup xs, .tup ys => eqvs xs ys
  | _, _ => false
def eqvs : List D → List D → Bool
  | [], [] => true
  | x :: xs, y :: ys => eqv x y && eqvs xs ys
  | _, _ => false
end
/-- data that may be compared: no cells, defs, exceptions; nesting below n; texts of ASCII -/
def plain : Nat → D → Bool
  | 0, _ => false
  | n + 1, d => match d with
    | .non => true
    | .bl _ => true
    | .int _ => true
    | .str x => x.cps.toList.all fun c => decide (c < 128)
    | .tup ds => ds.all (plain n)
    | .lst ds => ds.all (plain n)
    | _ => false
def eqD (d e : D) : M D := if plain 30 d && plain 30 e then pure (.bl (eqv d e)) else M.stuck
def neD (d e : D) : M D := if plain 30 d && plain 30 e then pure (.bl (!eqv d e)) else M.stuck

mutual
def same : D → D → Bool
  | .non, .non => true
  | .bl a, .bl b => a == b
  | .int i, .int j => i == j
  | .str x, .str y => x == y
  | .lst xs, .lst ys => sames xs ys
  | .tup xs, .tup ys => sames xs ys
  | .cell n, .cell m => n == m
  | .fn n, .fn m => n == m
  | .exc n, .exc m => n == m
  | .obj n, .obj m => n == m
  | _, _ => false
def sames : List D → List D → Bool
  | [], [] => true
  | x :: xs, y :: ys => same x y && sames xs ys
  | _, _ => false
end

/-! ### reading -/
/-- a cell's content, where a list is only read -/
def view : D → M D
  | .cell n => fun s => match s[n]? with
    | some (.lst ds) => .ok (.lst ds) s
    | _ => .stuck
  | d => pure d
def items : D → M (List D)
  | .lst ds => pure ds
  | .tup ds => pure ds
  | .str x => pure (x.cps.toList.map fun c => .str ⟨#[c]⟩)
  | _ => M.stuck
def truth : D → M Bool
  | .non => pure false
  | .bl b => pure b
  | .int i => pure (i != 0)
  | .str x => pure (sLen x != 0)
  | .tup ds => pure (!ds.isEmpty)
  | .lst ds => pure (!ds.isEmpty)
  | _ => M.stuck

/-! ### operators -/
inductive BOp where
  | add | sub | mul | fdiv | mod | pow
inductive COp where
  | eq | ne | lt | le | gt | ge | is | isNot | isin | notIn
/-- sizes of factors -/
def mulOk (i j : Int) : Bool := decide (i.natAbs.log2 + j.natAbs.log2 < 134217000)
def divOk (j : Int) : Bool := decide (j ≠ 0) && decide (j.natAbs.log2 < 9000)
def powOk (i j : Int) : Bool := decide (0 ≤ j) && decide (j ≤ 1000000) && decide (i.natAbs < 2 ^ 64)
def bop : BOp → D → D → M D
  | .add, .int i, .int j => pure (.int (i + j))
  | .add, .tup xs, .tup ys => if xs.length + ys.length ≤ lim then pure (.tup (xs ++ ys)) else M.stuck
  | .add, .lst xs, .lst ys => if xs.length + ys.length ≤ lim then pure (.lst (xs ++ ys)) else M.stuck
  | .add, .str x, .str y => if sLen x + sLen y ≤ lim then pure (.str (sApp x y)) else M.stuck
  | .sub, .int i, .int j => pure (.int (i - j))
  | .mul, .int i, .int j => if mulOk i j then pure (.int (i * j)) else M.stuck
  | .mul, .lst xs, .int k => if -mx ≤ k ∧ k ≤ mx ∧ xs.length * k.toNat ≤ lim then pure (.lst (List.replicate k.toNat xs).flatten) else M.stuck
  | .mul, .tup xs, .int k => if 1 ≤ k ∧ k ≤ 1000 ∧ xs.length ≤ 1000 ∧ xs ≠ [] then pure (.tup (List.replicate k.toNat xs).flatten) else M.stuck
  | .fdiv, .int i, .int j => if divOk j then pure (.int (i.fdiv j)) else M.stuck
  | .mod, .int i, .int j => if j ≠ 0 then pure (.int (i.fmod j)) else M.stuck
  | .pow, .int i, .int j => if powOk i j then pure (.int (i ^ j.toNat)) else M.stuck
  | _, _, _ => M.stuck
def isIn (x y : D) : M Bool := match y with
  | .lst ds => if plain 30 x && plain 30 y then pure (ds.any fun z => eqv z x) else M.stuck
  | .tup ds => if plain 30 x && plain 30 y then pure (ds.any fun z => eqv z x) else M.stuck
  | .str z => match x with
    | .str c => if sLen c = 1 then pure (decide (c.cps.getD 0 0 ∈ z.cps.toList)) else M.stuck
    | _ => M.stuck
  | _ => M.stuck
def isIt (x y : D) : M Bool := match y with
  | .non => pure (match x with | .non => true | _ => false)
  | .bl b => match x with
    | .bl a => pure (a == b)
    | _ => M.stuck
  | _ => M.stuck
def cop : COp → D → D → M D
  | .eq, x, y => eqD x y
  | .ne, x, y => neD x y
  | .lt, .int i, .int j => pure (.bl (decide (i < j)))
  | .le, .int i, .int j => pure (.bl (decide (i ≤ j)))
  | .gt, .int i, .int j => pure (.bl (decide (j < i)))
  | .ge, .int i, .int j => pure (.bl (decide (j ≤ i)))
  | .isin, x, y => do pure (.bl (← isIn x y))
  | .notIn, x, y => do pure (.bl (!(← isIn x y)))
  | .is, x, y => do pure (.bl (← isIt x y))
  | .isNot, x, y => do pure (.bl (!(← isIt x y)))
  | _, _, _ => M.stuck

/-! ### places -/
def ixN (n : Nat) (i : Int) : Option Nat := if 0 ≤ i then (if i < n then some i.toNat else none) else if -(n : Int) ≤ i then some (i + n).toNat else none
def atI (ds : List D) (i : Int) : M D := match ixN ds.length i with
  | some k => match ds[k]? with
    | some d => pure d
    | none => M.stuck
  | none => M.stuck
def index : D → D → M D
  | .lst ds, .int i => atI ds i
  | .tup ds, .int i => atI ds i
  | .str x, .int i => atI (x.cps.toList.map fun c => .str ⟨#[c]⟩) i
  | .scr ns, .int i => atI (ns.map D.int) i
  | _, _ => M.stuck
/-- an end of a slice, from the front -/
def sEnd (n d : Nat) : Option Int → Nat
  | none => d
  | some i => if i < 0 then (i + n).toNat else min i.toNat n
def cut {α : Type} (xs : List α) (lo hi : Option Int) : List α := (xs.drop (sEnd xs.length 0 lo)).take (sEnd xs.length xs.length hi - sEnd xs.length 0 lo)
def slice (d : D) (lo hi : Option Int) : M D := match d with
  | .lst ds => pure (.lst (cut ds lo hi))
  | .tup ds => pure (.tup (cut ds lo hi))
  | .str x => pure (.str ⟨(cut x.cps.toList lo hi).toArray⟩)
  | _ => M.stuck
def asEnd : D → M (Option Int)
  | .int i => if -mx ≤ i ∧ i ≤ mx then pure (some i) else M.stuck
  | _ => M.stuck

/-! ### built-ins -/
inductive Bf where
  | len | abs | int | sum | tuple | list | range1 | range2 | str | min2 | join | split | sortedSet | rev
inductive Ty where
  | int | bool | tuple | str
def intsD : List D → Option (List Int)
  | [] => some []
  | .int i :: r => match intsD r with
    | some is => some (i :: is)
    | none => none
  | _ => none
def strsD : List D → Option (List Str)
  | [] => some []
  | .str i :: r => match strsD r with
    | some is => some (i :: is)
    | none => none
  | _ => none
def rangeD (lo hi : Int) : List D := (List.range (hi - lo).toNat).map fun (i : Nat) => .int (lo + (i : Int))
def rangeM (lo hi : Int) : M (List D) := if -mx ≤ lo ∧ lo < mx ∧ -mx ≤ hi ∧ hi < mx ∧ (hi - lo).toNat ≤ lim then pure (rangeD lo hi) else M.stuck
def joinS (sep : Str) : List Str → Str
  | [] => ⟨#[]⟩
  | [x] => x
  | x :: r => sApp x (sApp sep (joinS sep r))
/-- text split at a sign or a short text: over the codes -/
def splitL (sep : List Nat) : Nat → List Nat → List Nat → List (List Nat)
  | 0, acc, r => [acc.reverse ++ r]
  | _ + 1, acc, [] => [acc.reverse]
  | n + 1, acc, c :: r => if sep.isPrefixOf (c :: r) then acc.reverse :: splitL sep n [] ((c :: r).drop sep.length) else splitL sep n (c :: acc) r
def isTy : Ty → D → M Bool
  | _, .cell _ => M.stuck
  | _, .fn _ => M.stuck
  | _, .exc _ => M.stuck
  | _, .obj _ => M.stuck
  | _, .scr _ => M.stuck
  | .int, .int _ => pure true
  | .int, .bl _ => pure true
  | .bool, .bl _ => pure true
  | .tuple, .tup _ => pure true
  | .str, .str _ => pure true
  | _, _ => pure false
def bfn : Bf → List D → M D
  | .len, [.lst ds] => pure (.int ds.length)
  | .len, [.tup ds] => pure (.int ds.length)
  | .len, [.str x] => pure (.int (sLen x))
  | .len, [.scr ns] => pure (.int ns.length)
  | .abs, [.int i] => pure (.int (if i < 0 then -i else i))
  | .int, [.int i] => pure (.int i)
  | .int, [.bl b] => pure (.int (if b then 1 else 0))
  | .sum, [.lst ds] => match intsD ds with
    | some is => pure (.int is.sum)
    | none => M.stuck
  | .sum, [.tup ds] => match intsD ds with
    | some is => pure (.int is.sum)
    | none => M.stuck
  | .tuple, [.lst ds] => pure (.tup ds)
  | .tuple, [.tup ds] => pure (.tup ds)
  | .list, [.lst ds] => pure (.lst ds)
  | .list, [.tup ds] => pure (.lst ds)
  | .range1, [.int j] => do pure (.lst (← rangeM 0 j))
  | .range2, [.int i, .int j] => do pure (.lst (← rangeM i j))
  | .min2, [.int i, .int j] => pure (.int (if j < i then j else i))
  | .rev, [.lst ds] => pure (.lst ds.reverse)
  | .rev, [.tup ds] => pure (.tup ds.reverse)
  | _, _ => M.stuck

/-- what is known of classes of exceptions: 0 is the base of all; 1000 is ValueError -/
def subX (c d : Nat) : Bool := c == d || d == 0 || d == 1000

/-! ### the syntax -/
inductive Tg where
  | one (i : Nat)
  | many (is : List Nat)
/-- what a loop or a comprehension walks -/
inductive It where
  | seq | range1 | range2 | enum | zip
inductive ME where
  | var (i : Nat)
  | int (i : Int)
  | bl (b : Bool)
  | non
  | str (x : Str)
  | glo (x : Nat)
  | gfn (f : Nat)
  | tup (es : ME)
  | lst (es : ME)
  | bin (op : BOp) (a b : ME)
  | neg (a : ME)
  | not (a : ME)
  | and (a b : ME)
  | or (a b : ME)
  | cmp (op : COp) (a b : ME)
  | chain (op op' : COp) (a b c : ME)
  | ite (c a b : ME)
  | ix (a i : ME)
  | sl (a lo hi : ME)
  | call (f : Nat) (es : ME)
  | calli (i : Nat) (es : ME)
  | blt (f : Bf) (es : ME)
  | isi (a : ME) (ty : Ty)
  | isx (i : Nat) (c : Nat)
  | comp (k : It) (es : ME) (tg : Tg) (c : ME) (e : ME) (own : List Nat)
  | anil
  | acons (e es : ME)
  | nothing

/-! ### the slots -/
inductive Sl where
  | none
  | val (d : D)
  | own (ds : List D)
abbrev Env := List Sl
def getV (ρ : Env) (i : Nat) : M D := match ρ[i]? with
  | some (.val d) => pure d
  | _ => M.stuck
/-- read an owned list where it is only looked at -/
def via (ρ : Env) (a : ME) (m : M D) : M D := match a with
  | .var i => match ρ[i]? with
    | some (.own ds) => pure (.lst ds)
    | some (.val d) => pure d
    | _ => M.stuck
  | _ => m
def viewAll : List D → M (List D)
  | [] => pure []
  | d :: ds => do
    let x ← view d
    let xs ← viewAll ds
    pure (x :: xs)
/-- the shared lists among these stand as they did -/
def still : List D → List D → M Unit
  | .cell n :: as, .lst ds :: bs => fun s => match s[n]? with
    | some (.lst es) => if sames ds es then still as bs s else .stuck
    | _ => .stuck
  | _ :: as, _ :: bs => still as bs
  | _, _ => pure ()
def setV (ρ : Env) (i : Nat) (d : D) : Env := ρ.set i (.val d)
def wipe (ρ : Env) : List Nat → Env
  | [] => ρ
  | v :: vs => (wipe ρ vs).set v .none
def bindL : List Nat → List D → Env → Option Env
  | [], [], ρ => some ρ
  | i :: is, d :: ds, ρ => bindL is ds (setV ρ i d)
  | _, _, _ => none
def bindT (tg : Tg) (d : D) (ρ : Env) : M Env := match tg with
  | .one i => pure (setV ρ i d)
  | .many is => match d with
    | .tup ds => match bindL is ds ρ with
      | some ρ' => pure ρ'
      | none => M.stuck
    | _ => M.stuck

/-! ### the evaluator -/
structure Cl where
  call : Nat → List D → M D
  glo : Nat → Option D
  isfn : Nat → Bool
def enumD (ds : List D) : List D := (List.range ds.length).zipWith (fun (i : Nat) d => .tup [.int (i : Int), d]) ds
def zipD (ds es : List D) : List D := ds.zipWith (fun d e => .tup [d, e]) es
def walk (k : It) (as : List D) : M (List D) := match k, as with
  | .seq, [a] => items a
  | .range1, [.int j] => rangeM 0 j
  | .range2, [.int i, .int j] => rangeM i j
  | .enum, [.lst ds] => pure (enumD ds)
  | .zip, [.lst a, .lst b] => pure (zipD a b)
  | .zip, [.lst a, .tup b] => pure (zipD a b)
  | .zip, [.tup a, .lst b] => pure (zipD a b)
  | .zip, [.tup a, .tup b] => pure (zipD a b)
  | _, _ => M.stuck
/-- a comprehension's turns -/
def turns (ck : M Unit) (tg : Tg) (fc : Env → M Bool) (fe : Env → M D) (ρ : Env) : List D → M (List D)
  | [] => do
    ck
    pure []
  | d :: ds => do
    ck
    let ρ' ← bindT tg d ρ
    if ← fc ρ' then
      let y ← fe ρ'
      let ys ← turns ck tg fc fe ρ ds
      pure (y :: ys)
    else turns ck tg fc fe ρ ds
/-- an end of a slice that may not be there -/
def endM (lo : ME) (m : M D) : M (Option Int) := match lo with
  | .nothing => pure none
  | _ => do asEnd (← m)
/-- a call without arguments lets no exception out -/
def callM (es : ME) (m : M D) : M D := match es with
  | .anil => M.calm m
  | _ => m
/-- a comprehension's test that may not be there -/
def condM (c : ME) (m : M D) : M Bool := match c with
  | .nothing => pure true
  | _ => do truth (← view (← m))
mutual
def evE (X : Cl) : ME → Env → M D
  | .var i, ρ => getV ρ i
  | .int i, _ => pure (.int i)
  | .bl b, _ => pure (.bl b)
  | .non, _ => pure .non
  | .str x, _ => pure (.str x)
  | .glo x, _ => match X.glo x with
    | some d => pure d
    | none => M.stuck
  | .gfn f, _ => if X.isfn f then pure (.fn f) else M.stuck
  | .tup es, ρ => do
    let ds ← evA X es ρ
    if ds.length ≤ 1000 then pure (.tup ds) else M.stuck
  | .lst es, ρ => do
    let ds ← evA X es ρ
    if ds.length ≤ 1000 then pure (.lst ds) else M.stuck
  | .bin op a b, ρ => do
    let x ← via ρ a (evE X a ρ)
    let y ← via ρ b (evE X b ρ)
    let x ← view x
    let y ← view y
    bop op x y
  | .neg a, ρ => do
    match ← evE X a ρ with
    | .int i => pure (.int (-i))
    | _ => M.stuck
  | .not a, ρ => do
    let x ← via ρ a (evE X a ρ)
    let x ← view x
    pure (.bl (!(← truth x)))
  | .and a b, ρ => do
    let x ← evE X a ρ
    if ← truth x then evE X b ρ else pure x
  | .or a b, ρ => do
    let x ← evE X a ρ
    if ← truth x then pure x else evE X b ρ
  | .cmp op a b, ρ => do
    let x ← via ρ a (evE X a ρ)
    let y ← via ρ b (evE X b ρ)
    let x ← view x
    let y ← view y
    cop op x y
  | .chain op op' a b c, ρ => do
    let x ← evE X a ρ
    let y ← evE X b ρ
    match ← cop op x y with
    | .bl true => do
      let z ← evE X c ρ
      cop op' y z
    | .bl false => pure (.bl false)
    | _ => M.stuck
  | .ite c a b, ρ => do
    let x ← via ρ c (evE X c ρ)
    let x ← view x
    if ← truth x then evE X a ρ else evE X b ρ
  | .ix a i, ρ => do
    let x ← via ρ a (evE X a ρ)
    let y ← evE X i ρ
    let x ← view x
    index x y
  | .sl a lo hi, ρ => do
    let x ← via ρ a (evE X a ρ)
    let l ← endM lo (evE X lo ρ)
    let h ← endM hi (evE X hi ρ)
    let x ← view x
    slice x l h
  | .call f es, ρ => do
    let ds ← evA X es ρ
    callM es (X.call f ds)
  | .calli i es, ρ => do
    match ← getV ρ i with
    | .fn f => do
      let ds ← evA X es ρ
      callM es (X.call f ds)
    | _ => M.stuck
  | .blt f es, ρ => do
    let ds ← evV X es ρ
    let ds ← viewAll ds
    bfn f ds
  | .isi a ty, ρ => do
    let x ← evE X a ρ
    pure (.bl (← isTy ty x))
  | .isx i c, ρ => do
    match ← getV ρ i with
    | .exc d => pure (.bl (subX d c))
    | _ => M.stuck
  | .comp k es tg c e own, ρ => do
    let as ← evV X es ρ
    let bs ← viewAll as
    let ds ← walk k bs
    let ys ← turns (still as bs) tg (fun ρ' => M.calm (condM c (via ρ' c (evE X c ρ')))) (fun ρ' => M.calm (evE X e ρ')) (wipe ρ own) ds
    pure (.lst ys)
  | .anil, _ => M.stuck
  | .acons _ _, _ => M.stuck
  | .nothing, _ => M.stuck
/-- arguments that are handed on -/
def evA (X : Cl) : ME → Env → M (List D)
  | .anil, _ => pure []
  | .acons e es, ρ => do
    let d ← evE X e ρ
    let ds ← evA X es ρ
    pure (d :: ds)
  | _, _ => M.stuck
/-- arguments that are only looked at -/
def evV (X : Cl) : ME → Env → M (List D)
  | .anil, _ => pure []
  | .acons e es, ρ => do
    let d ← via ρ e (evE X e ρ)
    let ds ← evV X es ρ
    pure (d :: ds)
  | _, _ => M.stuck
end

def evO (X : Cl) (own : Bool) (m : ME) (ρ : Env) : M (List D) := if own then evV X m ρ else evA X m ρ
/-- what is walked: as it is handed, as it is seen, item by item -/
def evI (X : Cl) (own : Bool) (k : It) (m : ME) (ρ : Env) : M (List D × List D × List D) := do
  let as ← evO X own m ρ
  let bs ← viewAll as
  let ds ← walk k bs
  pure (as, bs, ds)

/-! ### statements -/
inductive Out where
  | nx (ρ : Env)
  | ct (ρ : Env)
  | ret (d : D)
  | thr (c : Nat) (ρ : Env)
inductive MS where
  | skip
  | seq (a b : MS)
  | pub (i : Nat) (a : MS)
  | set (i : Nat) (e : ME)
  | setOwn (i : Nat) (e : ME)
  | setCell (i : Nat) (e : ME)
  | unpack (is : List Nat) (e : ME)
  | par (own : List (Bool × Nat)) (es : ME)
  | append (i : Nat) (e : ME)
  | extend (i : Nat) (e : ME)
  | setix (i : Nat) (j e : ME)
  | augix (i : Nat) (j e : ME)
  | popx (i : Nat) (e : ME)
  | popTo (t i : Nat) (e : ME)
  | aug (i : Nat) (op : BOp) (e : ME)
  | expr (e : ME)
  | ife (c : ME) (a b : MS)
  | whl (c : ME) (a : MS)
  | for_ (k : It) (es : ME) (tg : Tg) (a : MS)
  | ret (e : ME)
  | retN
  | raise (c : Nat)
  | tryc (a : MS) (hs : MS)
  | hcons (c : Nat) (i : Option Nat) (a : MS) (r : MS)
  | hnil
  | cont
  | never
/-- an expression within a statement: its exception is let out with the slots -/
def lft (ρ : Env) (m : M D) (f : D → M Out) : M Out := fun s => match m s with
  | .ok d s' => f d s'
  | .exc c s' => .ok (.thr c ρ) s'
  | .stuck => .stuck
def lftA {α : Type} (ρ : Env) (m : M α) (f : α → M Out) : M Out := fun s => match m s with
  | .ok d s' => f d s'
  | .exc c s' => .ok (.thr c ρ) s'
  | .stuck => .stuck
def thenO (m : M Out) (f : Env → M Out) : M Out := do
  match ← m with
  | .nx ρ => f ρ
  | o => pure o
/-- the list that a name owns, or shares -/
def getL (ρ : Env) (i : Nat) : M (List D) := match ρ[i]? with
  | some (.own ds) => pure ds
  | some (.val (.cell n)) => fun s => match s[n]? with
    | some (.lst ds) => .ok ds s
    | _ => .stuck
  | _ => M.stuck
def putL (ρ : Env) (i : Nat) (ds : List D) : M Env := match ρ[i]? with
  | some (.own _) => pure (ρ.set i (.own ds))
  | some (.val (.cell n)) => fun s => match s[n]? with
    | some (.lst _) => .ok ρ (s.set n (.lst ds))
    | _ => .stuck
  | _ => M.stuck
def setOwns : List (Bool × Nat) → List D → Env → Option Env
  | [], [], ρ => some ρ
  | (false, i) :: is, d :: ds, ρ => setOwns is ds (setV ρ i d)
  | (true, i) :: is, .lst xs :: ds, ρ => setOwns is ds (ρ.set i (.own xs))
  | _, _, _ => none
/-- a for loop's turns; what is walked still stands as it did -/
def forL (ck : M Unit) (tg : Tg) (body : Env → M Out) : List D → Env → M Out
  | [], ρ => do
    ck
    pure (.nx ρ)
  | d :: ds, ρ => do
    ck
    let ρ' ← bindT tg d ρ
    match ← body ρ' with
    | .nx ρ2 => forL ck tg body ds ρ2
    | .ct ρ2 => forL ck tg body ds ρ2
    | o => pure o
/-- a while loop's turns -/
def whlL (c : Env → M Bool) (body : Env → M Out) : Nat → Env → M Out
  | 0, _ => M.stuck
  | n + 1, ρ => lftA ρ (c ρ) fun b => if b then (do
      match ← body ρ with
      | .nx ρ2 => whlL c body n ρ2
      | .ct ρ2 => whlL c body n ρ2
      | o => pure o) else pure (.nx ρ)
mutual
def ex (X : Cl) (F : Nat) : MS → Env → M Out
  | .skip, ρ => pure (.nx ρ)
  | .seq a b, ρ => thenO (ex X F a ρ) (ex X F b)
  | .pub i a, ρ => match ρ[i]? with
    | some (.own ds) => ex X F a (setV ρ i (.lst ds))
    | _ => ex X F a ρ
  | .set i e, ρ => lft ρ (evE X e ρ) fun d => pure (.nx (setV ρ i d))
  | .setOwn i e, ρ => lft ρ (evE X e ρ) fun d => match d with
    | .lst ds => pure (.nx (ρ.set i (.own ds)))
    | _ => M.stuck
  | .setCell i e, ρ => lft ρ (evE X e ρ) fun d => match d with
    | .lst ds => fun s => .ok (.nx (setV ρ i (.cell s.length))) (s ++ [.lst ds])
    | _ => M.stuck
  | .unpack is e, ρ => lft ρ (evE X e ρ) fun d => do
    let ρ' ← bindT (.many is) d ρ
    pure (.nx ρ')
  | .par own es, ρ => lftA ρ (evA X es ρ) fun ds => match setOwns own ds ρ with
    | some ρ' => pure (.nx ρ')
    | none => M.stuck
  | .append i e, ρ => lftA ρ (getL ρ i) fun _ => lft ρ (evE X e ρ) fun d => do
    let ds ← getL ρ i
    if ds.length < lim then (do
      let ρ' ← putL ρ i (ds ++ [d])
      pure (.nx ρ')) else M.stuck
  | .extend i e, ρ => lftA ρ (getL ρ i) fun _ => lft ρ (via ρ e (evE X e ρ)) fun d => do
    let ds ← getL ρ i
    match ← view d with
    | .lst es => if ds.length + es.length ≤ lim then (do
        let ρ' ← putL ρ i (ds ++ es)
        pure (.nx ρ')) else M.stuck
    | _ => M.stuck
  | .setix i j e, ρ => lft ρ (evE X e ρ) fun d => lftA ρ (getL ρ i) fun _ => lft ρ (evE X j ρ) fun k => do
    let ds ← getL ρ i
    match k with
    | .int k => match ixN ds.length k with
      | some k => do
        let ρ' ← putL ρ i (ds.set k d)
        pure (.nx ρ')
      | none => M.stuck
    | _ => M.stuck
  | .augix i j e, ρ => lftA ρ (getL ρ i) fun _ => lft ρ (evE X j ρ) fun k => lftA ρ (getL ρ i) fun ds => lft ρ (match k with
    | .int k => atI ds k
    | _ => M.stuck) fun a => lft ρ (evE X e ρ) fun b => do
    let ds ← getL ρ i
    match k, a, b with
    | .int k, .int a, .int b => match ixN ds.length k with
      | some k => do
        let ρ' ← putL ρ i (ds.set k (.int (a + b)))
        pure (.nx ρ')
      | none => M.stuck
    | _, _, _ => M.stuck
  | .popx i e, ρ => lftA ρ (getL ρ i) fun _ => lft ρ (evE X e ρ) fun k => do
    let ds ← getL ρ i
    match k with
    | .int k => match ixN ds.length k with
      | some k => do
        let ρ' ← putL ρ i (ds.eraseIdx k)
        pure (.nx ρ')
      | none => M.stuck
    | _ => M.stuck
  | .popTo t i e, ρ => lftA ρ (getL ρ i) fun _ => lft ρ (evE X e ρ) fun k => do
    let ds ← getL ρ i
    match k with
    | .int k => match ixN ds.length k with
      | some k => match ds[k]? with
        | some d => do
          let ρ' ← putL ρ i (ds.eraseIdx k)
          pure (.nx (setV ρ' t d))
        | none => M.stuck
      | none => M.stuck
    | _ => M.stuck
  | .aug i op e, ρ => lft ρ (getV ρ i) fun x => lft ρ (evE X e ρ) fun y => lft ρ (match op with
    | .add => (match x, y with
      | .int a, .int b => pure (.int (a + b))
      | _, _ => M.stuck)
    | _ => M.stuck) fun d => pure (.nx (setV ρ i d))
  | .expr e, ρ => lft ρ (evE X e ρ) fun _ => pure (.nx ρ)
  | .ife c a b, ρ => lftA ρ (do truth (← view (← via ρ c (evE X c ρ)))) fun t => if t then ex X F a ρ else ex X F b ρ
  | .whl c a, ρ => whlL (fun ρ' => do truth (← view (← via ρ' c (evE X c ρ')))) (ex X F a) F ρ
  | .for_ k es tg a, ρ => lftA ρ (evI X false k es ρ) fun z => forL (still z.1 z.2.1) tg (ex X F a) z.2.2 ρ
  | .ret e, ρ => lft ρ (evE X e ρ) fun d => pure (.ret d)
  | .retN, _ => pure (.ret .non)
  | .raise c, ρ => pure (.thr c ρ)
  | .tryc a hs, ρ => do
    match ← ex X F a ρ with
    | .thr c ρ' => exH X F hs c ρ'
    | o => pure o
  | .hcons _ _ _ _, _ => M.stuck
  | .hnil, _ => M.stuck
  | .cont, ρ => pure (.ct ρ)
  | .never, _ => M.stuck
/-- the first handler that takes the exception -/
def exH (X : Cl) (F : Nat) : MS → Nat → Env → M Out
  | .hcons d i a r, c, ρ => if subX c d then (match i with
      | some i => do
        match ← ex X F a (setV ρ i (.exc c)) with
        | .nx ρ' => pure (.nx (ρ'.set i .none))
        | .ct ρ' => pure (.ct (ρ'.set i .none))
        | o => pure o
      | none => ex X F a ρ) else exH X F r c ρ
  | .hnil, c, ρ => pure (.thr c ρ)
  | _, _, _ => M.stuck
end

/-! ### defs -/
structure Fn where
  np : Nat
  ns : Nat
  body : MS
structure Tab where
  fn : Nat → Option Fn
  glo : Nat → Option D
  F : Nat
def start (n : Nat) (ds : List D) : Env := ds.map Sl.val ++ List.replicate (n - ds.length) Sl.none
/-- what a call hands out -/
def fin : Res Out → Res D
  | .ok (.ret d) s => .ok d s
  | .ok (.nx _) s => .ok .non s
  | .ok (.thr c _) s => .exc c s
  | _ => .stuck
def callF (T : Tab) : Nat → Nat → List D → M D
  | 0, _, _ => M.stuck
  | k + 1, f, ds => match T.fn f with
    | some fn => if ds.length = fn.np then fun s => fin (ex ⟨callF T k, T.glo, fun g => (T.fn g).isSome⟩ T.F fn.body (start fn.ns ds) s) else M.stuck
    | none => M.stuck
end EV

/-! EvRep: data in an abstract heap. -/
namespace EV
open PySem PySem.Spec PyProof.Rows L2

/-- what is fixed through a law -/
structure Fix where
  P : Program
  w : World
  K : PySem.W.Frag
  mg : Str → Option Value
  base : Heap
  T : Tab
  nm : Nat → Str
  gn : Nat → Str
  xn : Nat → Str
  ea : Addr

section
variable (Y : Fix)
mutual
/-- the value v is the data d; I: what never changes, μ: where the cells stand -/
def Rep (I : Hp) (μ : List Addr) : D → V → Prop
  | .non, v => v = .non
  | .bl b, v => v = .bl b
  | .int i, v => v = .int i
  | .str x, v => v = .str x ∧ x.cps.size ≤ sizeLine
  | .tup ds, v => ∃ a vs, v = .ref a ∧ I a = some (.tup vs) ∧ ds.length ≤ sizeLine ∧ Reps I μ ds vs
  | .lst ds, v => ∃ a vs, v = .ref a ∧ I a = some (.lst vs) ∧ ds.length ≤ sizeLine ∧ Reps I μ ds vs
  | .cell n, v => ∃ a, v = .ref a ∧ μ[n]? = some a
  | .fn f, v => ∃ a, v = .ref a ∧ Y.mg (Y.nm f) = some (.ref a) ∧ (Y.T.fn f).isSome = true
  | .exc c, v => v = .ref Y.ea
  | .obj n, v => False
  | .scr ns, v => ∃ a, v = .ref a ∧ SqL Y.K I a (ns.map V.int)
def Reps (I : Hp) (μ : List Addr) : List D → List V → Prop
  | [], vs => vs = []
  | d :: ds, vs => ∃ v r, vs = v :: r ∧ Rep I μ d v ∧ Reps I μ ds r
end
end
section
variable {Y : Fix} {I I' H H' : Hp} {μ μ' : List Addr}
mutual
theorem Rep.mono (s : Same I I') (m : μ <+: μ') : ∀ {d : D} {v : V}, Rep Y I μ d v → Rep Y I' μ' d v
  | .non, _, h => h
  | .bl _, _, h => h
  | .int _, _, h => h
  | .str _, _, h => h
  | .tup ds, _, ⟨a, vs, e, h, z, r⟩ => ⟨a, vs, e, s _ _ h, z, Reps.mono s m r⟩
  | .lst ds, _, ⟨a, vs, e, h, z, r⟩ => ⟨a, vs, e, s _ _ h, z, Reps.mono s m r⟩
  | .cell n, _, ⟨a, e, h⟩ => ⟨a, e, by
      obtain ⟨t, rfl⟩ := m
      have hl := (List.getElem?_eq_some_iff.mp h).1
      rw [List.getElem?_append_left hl]; exact h⟩
  | .fn _, _, h => h
  | .exc _, _, h => h
  | .obj _, _, h => h.elim
  | .scr _, _, ⟨a, e, h⟩ => ⟨a, e, Same.seq s h⟩
theorem Reps.mono (s : Same I I') (m : μ <+: μ') : ∀ {ds : List D} {vs : List V}, Reps Y I μ ds vs → Reps Y I' μ' ds vs
  | [], _, h => h
  | _ :: _, _, ⟨v, r, e, h, t⟩ => ⟨v, r, e, Rep.mono s m h, Reps.mono s m t⟩
end
theorem Reps.length : ∀ {ds : List D} {vs : List V}, Reps Y I μ ds vs → vs.length = ds.length
  | [], _, h => by
    have e : _ = [] := h
    rw [e]; rfl
  | _ :: _, _, ⟨_, _, e, _, t⟩ => by rw [e, List.length_cons, List.length_cons, Reps.length t]
theorem Reps.nil : Reps Y I μ [] [] := rfl
theorem Reps.cons {d : D} {v : V} {ds : List D} {vs : List V} (h : Rep Y I μ d v) (t : Reps Y I μ ds vs) : Reps Y I μ (d :: ds) (v :: vs) := ⟨v, vs, rfl, h, t⟩
theorem Reps.get : ∀ {ds : List D} {vs : List V} {i : Nat} {d : D}, Reps Y I μ ds vs → ds[i]? = some d → ∃ v, vs[i]? = some v ∧ Rep Y I μ d v
  | [], _, i, _, _, e => by simp at e
  | d :: ds, _, 0, d', ⟨v, r, rfl, h, t⟩, e => by
    have q : d = d' := by simpa using e
    exact ⟨v, rfl, q ▸ h⟩
  | d :: ds, _, i + 1, d', ⟨v, r, rfl, h, t⟩, e => by
    obtain ⟨u, e1, e2⟩ := Reps.get (i := i) t (by simpa using e)
    exact ⟨u, by simpa using e1, e2⟩
theorem Reps.getV : ∀ {ds : List D} {vs : List V} {i : Nat} {v : V}, Reps Y I μ ds vs → vs[i]? = some v → ∃ d, ds[i]? = some d ∧ Rep Y I μ d v
  | [], _, i, _, h, e => by
    have q : _ = [] := h
    rw [q] at e; simp at e
  | d :: ds, _, 0, v', ⟨v, r, rfl, h, t⟩, e => by
    have q : v = v' := by simpa using e
    exact ⟨d, rfl, q ▸ h⟩
  | d :: ds, _, i + 1, v', ⟨v, r, rfl, h, t⟩, e => by
    obtain ⟨u, e1, e2⟩ := Reps.getV (i := i) t (by simpa using e)
    exact ⟨u, by simpa using e1, e2⟩
theorem Reps.append : ∀ {ds es : List D} {vs us : List V}, Reps Y I μ ds vs → Reps Y I μ es us → Reps Y I μ (ds ++ es) (vs ++ us)
  | [], _, _, _, h, t => by
    have e : _ = [] := h
    rw [e]; exact t
  | _ :: _, _, _, _, ⟨v, r, rfl, h, q⟩, t => ⟨v, _, rfl, h, Reps.append q t⟩
theorem Reps.drop : ∀ {n : Nat} {ds : List D} {vs : List V}, Reps Y I μ ds vs → Reps Y I μ (ds.drop n) (vs.drop n)
  | 0, _, _, h => h
  | n + 1, [], _, h => by
    have e : _ = [] := h
    rw [e]; exact Reps.nil
  | n + 1, _ :: _, _, ⟨v, r, rfl, h, q⟩ => Reps.drop (n := n) q
theorem Reps.take : ∀ {n : Nat} {ds : List D} {vs : List V}, Reps Y I μ ds vs → Reps Y I μ (ds.take n) (vs.take n)
  | 0, _, _, h => Reps.nil
  | n + 1, [], _, h => by
    have e : _ = [] := h
    rw [e]; exact Reps.nil
  | n + 1, _ :: _, _, ⟨v, r, rfl, h, q⟩ => Reps.cons h (Reps.take (n := n) q)
theorem Reps.set : ∀ {n : Nat} {ds : List D} {vs : List V} {d : D} {v : V}, Reps Y I μ ds vs → Rep Y I μ d v → Reps Y I μ (ds.set n d) (vs.set n v)
  | _, [], _, _, _, h, _ => by
    have e : _ = [] := h
    rw [e]; exact Reps.nil
  | 0, _ :: _, _, _, _, ⟨v, r, rfl, h, q⟩, g => Reps.cons g q
  | n + 1, _ :: _, _, _, _, ⟨v, r, rfl, h, q⟩, g => Reps.cons h (Reps.set (n := n) q g)
theorem Reps.eraseIdx : ∀ {n : Nat} {ds : List D} {vs : List V}, Reps Y I μ ds vs → Reps Y I μ (ds.eraseIdx n) (vs.eraseIdx n)
  | _, [], _, h => by
    have e : _ = [] := h
    rw [e]; exact Reps.nil
  | 0, _ :: _, _, ⟨v, r, rfl, h, q⟩ => q
  | n + 1, _ :: _, _, ⟨v, r, rfl, h, q⟩ => Reps.cons h (Reps.eraseIdx (n := n) q)
theorem Reps.reverse : ∀ {ds : List D} {vs : List V}, Reps Y I μ ds vs → Reps Y I μ ds.reverse vs.reverse
  | [], _, h => by
    have e : _ = [] := h
    rw [e]; exact Reps.nil
  | d :: ds, _, ⟨v, r, rfl, h, q⟩ => by
    rw [List.reverse_cons, List.reverse_cons]
    exact Reps.append (Reps.reverse q) (Reps.cons h Reps.nil)
theorem Reps.flat {ds : List D} {vs : List V} (h : Reps Y I μ ds vs) : ∀ k : Nat, Reps Y I μ (List.replicate k ds).flatten (List.replicate k vs).flatten
  | 0 => Reps.nil
  | k + 1 => by
    rw [List.replicate_succ, List.replicate_succ, List.flatten_cons, List.flatten_cons]
    exact Reps.append h (Reps.flat h k)
theorem Reps.intsD : ∀ {ds : List D} {is : List Int} {vs : List V}, EV.intsD ds = some is → Reps Y I μ ds vs → vs = is.map V.int
  | [], is, vs, e, h => by
    have q : vs = [] := h
    have z : [] = is := Option.some.inj e
    rw [q, ← z]; rfl
  | .int i :: r, is, vs, e, h => by
    obtain ⟨v, r', rfl, h1, t⟩ := h
    have hv : v = .int i := h1
    unfold EV.intsD at e
    split at e
    · rename_i js e2
      have z := Option.some.inj e
      rw [← z, hv, Reps.intsD e2 t]; rfl
    · cases e
  | .non :: _, _, _, e, _ => by cases e
  | .bl _ :: _, _, _, e, _ => by cases e
  | .str _ :: _, _, _, e, _ => by cases e
  | .tup _ :: _, _, _, e, _ => by cases e
  | .lst _ :: _, _, _, e, _ => by cases e
  | .cell _ :: _, _, _, e, _ => by cases e
  | .fn _ :: _, _, _, e, _ => by cases e
  | .exc _ :: _, _, _, e, _ => by cases e
  | .obj _ :: _, _, _, e, _ => by cases e
  | .scr _ :: _, _, _, e, _ => by cases e
end

section
variable (Y : Fix)
def CellOk (I H : Hp) (μ : List Addr) (a : Addr) : Cell → Prop
  | .lst ds => ∃ vs, H a = some (.lst vs) ∧ ds.length ≤ sizeLine ∧ Reps Y I μ ds vs
  | .ins _ => False
/-- the heap bears the store -/
structure Wd (I H : Hp) (S : Sto) (μ : List Addr) : Prop where
  sub : Same I H
  len : μ.length = S.length
  nd : μ.Nodup
  cell : ∀ (n : Nat) (c : Cell), S[n]? = some c → ∃ a, μ[n]? = some a ∧ I a = none ∧ CellOk Y I H μ a c
end
/-- what an evaluation leaves: cells may have changed, all else stands, what is fixed is old or new -/
structure Ext (I H : Hp) (μ : List Addr) (I' H' : Hp) (μ' : List Addr) : Prop where
  sub : Same I I'
  mu : μ <+: μ'
  new : ∀ a o, I' a = some o → I a = some o ∨ H a = none
  keep : ∀ a o, H a = some o → a ∉ μ → H' a = some o
  there : ∀ a o, H a = some o → ∃ o', H' a = some o'
  fresh : ∀ a ∈ μ', a ∈ μ ∨ H a = none
section
variable {Y : Fix} {I I' I2 H H' H2 : Hp} {μ μ' μ2 : List Addr}
theorem Ext.refl : Ext I H μ I H μ := ⟨fun _ _ h => h, List.prefix_refl _, fun _ _ h => .inl h, fun _ _ h _ => h, fun _ o h => ⟨o, h⟩, fun _ h => .inl h⟩
theorem Ext.free (e : Ext I H μ I' H' μ') {a : Addr} (h : H' a = none) : H a = none := by
  cases q : H a with
  | none => rfl
  | some o =>
    obtain ⟨o', e'⟩ := e.there a o q
    rw [h] at e'; cases e'
theorem Ext.trans (e : Ext I H μ I' H' μ') (f : Ext I' H' μ' I2 H2 μ2) : Ext I H μ I2 H2 μ2 where
  sub := e.sub.trans f.sub
  mu := e.mu.trans f.mu
  new := fun a o h => by
    rcases f.new a o h with h | h
    · exact e.new a o h
    · exact .inr (e.free h)
  keep := fun a o h n => by
    have h1 := e.keep a o h n
    refine f.keep a o h1 fun m => ?_
    rcases e.fresh a m with z | z
    · exact n z
    · rw [h] at z; cases z
  there := fun a o h => by
    obtain ⟨o1, h1⟩ := e.there a o h
    exact f.there a o1 h1
  fresh := fun a h => by
    rcases f.fresh a h with z | z
    · exact e.fresh a z
    · exact .inr (e.free z)
/-- the slots bear the names' data -/
structure EnvOk (Y : Fix) (I H : Hp) (μ : List Addr) (ρ : Env) (σ : L2.St) : Prop where
  len : ρ.length = σ.length
  val : ∀ (i : Nat) (d : D), ρ[i]? = some (.val d) → ∃ v, σ[i]? = some (some v) ∧ Rep Y I μ d v
  own : ∀ (i : Nat) (ds : List D), ρ[i]? = some (.own ds) → ∃ a vs, σ[i]? = some (some (.ref a)) ∧ H a = some (.lst vs) ∧ I a = none ∧ a ∉ μ ∧ ds.length ≤ sizeLine ∧ Reps Y I μ ds vs
  sep : ∀ (i j : Nat) (a : Addr) (ds es : List D), ρ[i]? = some (.own ds) → ρ[j]? = some (.own es) → σ[i]? = some (some (.ref a)) → σ[j]? = some (some (.ref a)) → i = j
theorem EnvOk.ext {ρ : Env} {σ : L2.St} (h : EnvOk Y I H μ ρ σ) (e : Ext I H μ I' H' μ') : EnvOk Y I' H' μ' ρ σ where
  len := h.len
  val := fun i d q => by
    obtain ⟨v, e1, r⟩ := h.val i d q
    exact ⟨v, e1, r.mono e.sub e.mu⟩
  own := fun i ds q => by
    obtain ⟨a, vs, e1, e2, e3, e4, e5, r⟩ := h.own i ds q
    refine ⟨a, vs, e1, e.keep _ _ e2 e4, ?_, fun m => ?_, e5, r.mono e.sub e.mu⟩
    · cases z : I' a with
      | none => rfl
      | some o =>
        rcases e.new a o z with y | y
        · rw [e3] at y; cases y
        · rw [e2] at y; cases y
    · rcases e.fresh a m with y | y
      · exact e4 y
      · rw [e2] at y; cases y
  sep := h.sep
/-- a list or a tuple that is looked at -/
def Look (Y : Fix) (I H : Hp) (μ : List Addr) (d : D) (v : V) : Prop :=
  Rep Y I μ d v ∨ ∃ ds a vs, d = .lst ds ∧ v = .ref a ∧ H a = some (.lst vs) ∧ ds.length ≤ sizeLine ∧ Reps Y I μ ds vs
/-- .. that no evaluation changes -/
def View (Y : Fix) (I H : Hp) (μ : List Addr) (d : D) (v : V) : Prop :=
  Rep Y I μ d v ∨ ∃ ds a vs, d = .lst ds ∧ v = .ref a ∧ H a = some (.lst vs) ∧ I a = none ∧ a ∉ μ ∧ ds.length ≤ sizeLine ∧ Reps Y I μ ds vs
theorem View.ext {d : D} {v : V} (h : View Y I H μ d v) (e : Ext I H μ I' H' μ') : View Y I' H' μ' d v := by
  rcases h with h | ⟨ds, a, vs, rfl, rfl, e2, e3, e4, e5, r⟩
  · exact .inl (h.mono e.sub e.mu)
  · refine .inr ⟨ds, a, vs, rfl, rfl, e.keep _ _ e2 e4, ?_, fun m => ?_, e5, r.mono e.sub e.mu⟩
    · cases z : I' a with
      | none => rfl
      | some o =>
        rcases e.new a o z with y | y
        · rw [e3] at y; cases y
        · rw [e2] at y; cases y
    · rcases e.fresh a m with y | y
      · exact e4 y
      · rw [e2] at y; cases y
theorem Look.lst {ds : List D} {v : V} (s : Same I H) (h : Look Y I H μ (.lst ds) v) : ∃ a vs, v = .ref a ∧ H a = some (.lst vs) ∧ ds.length ≤ sizeLine ∧ Reps Y I μ ds vs := by
  rcases h with ⟨a, vs, rfl, h, z, r⟩ | ⟨ds', a, vs, e, rfl, h, z, r⟩
  · exact ⟨a, vs, rfl, s _ _ h, z, r⟩
  · cases e
    exact ⟨a, vs, rfl, h, z, r⟩
theorem Look.tup {ds : List D} {v : V} (s : Same I H) (h : Look Y I H μ (.tup ds) v) : ∃ a vs, v = .ref a ∧ H a = some (.tup vs) ∧ ds.length ≤ sizeLine ∧ Reps Y I μ ds vs := by
  rcases h with ⟨a, vs, rfl, h, z, r⟩ | ⟨ds', a, vs, e, _⟩
  · exact ⟨a, vs, rfl, s _ _ h, z, r⟩
  · cases e
theorem Look.rep {d : D} {v : V} (h : Look Y I H μ d v) (n : ∀ ds, d ≠ .lst ds) : Rep Y I μ d v := by
  rcases h with h | ⟨ds, _, _, e, _⟩
  · exact h
  · exact absurd e (n ds)
theorem View.look {S : Sto} {S' : Sto} {d d' : D} {v : V} (w : Wd Y I H S μ) (h : View Y I H μ d v) (e : view d S = .ok d' S') : S' = S ∧ Look Y I H μ d' v := by
  rcases h with h | ⟨ds, a, vs, rfl, rfl, e2, e3, e4, e5, r⟩
  · cases d with
    | cell n =>
      have e' : (match S[n]? with
        | some (.lst ds) => (.ok (.lst ds) S : Res D)
        | _ => .stuck) = .ok d' S' := e
      split at e'
      · rename_i ds q
        cases e'
        obtain ⟨a, m, _, vs, h1, h2, h3⟩ := w.cell n _ q
        obtain ⟨a', rfl, m'⟩ := h
        rw [m] at m'; cases m'
        exact ⟨rfl, .inr ⟨ds, a, vs, rfl, rfl, h1, h2, h3⟩⟩
      · cases e'
    | _ =>
      cases e
      exact ⟨rfl, .inl h⟩
  · cases e
    exact ⟨rfl, .inr ⟨ds, a, vs, rfl, rfl, e2, e5, r⟩⟩
end

/-! ### what follows an evaluation -/
def WOK (Y : Fix) (W : WX) (c : Nat) (σ : L2.St) (H : Hp) : Prop := ∃ C, Y.mg (Y.xn c) = some (.ref C) ∧ W (.ref C) none σ H
def Aft (Y : Fix) (W : WX) (σ : L2.St) (I H : Hp) (μ : List Addr) {α : Type} (r : Res α) (G : α → Hp → Hp → Sto → List Addr → Prop) : Prop := match r with
  | .ok a S' => ∀ I' H' μ', Ext I H μ I' H' μ' → Wd Y I' H' S' μ' → G a I' H' S' μ'
  | .exc c S' => ∀ I' H' μ', Ext I H μ I' H' μ' → Wd Y I' H' S' μ' → WOK Y W c σ H'
  | .stuck => False
section
variable {Y : Fix} {W : WX} {σ : L2.St} {I H I1 H1 : Hp} {μ μ1 : List Addr} {α β : Type}
theorem Aft.mono {r : Res α} {G G' : α → Hp → Hp → Sto → List Addr → Prop} (h : Aft Y W σ I H μ r G) (k : ∀ a I' H' S' μ', Ext I H μ I' H' μ' → Wd Y I' H' S' μ' → G a I' H' S' μ' → G' a I' H' S' μ') : Aft Y W σ I H μ r G' := by
  cases r with
  | ok a S' => exact fun I' H' μ' e w => k _ _ _ _ _ e w (h I' H' μ' e w)
  | exc c S' => exact h
  | stuck => exact h
theorem Aft.bnd {m : M α} {f : α → M β} {S : Sto} {G : β → Hp → Hp → Sto → List Addr → Prop} (h : Aft Y W σ I H μ (M.bnd m f S) G) :
    Aft Y W σ I H μ (m S) fun a I' H' S' μ' => Aft Y W σ I' H' μ' (f a S') G := by
  unfold M.bnd at h
  cases e : m S with
  | ok a S' =>
    rw [e] at h
    intro I' H' μ' x w
    have h' : Aft Y W σ I H μ (f a S') G := h
    cases e2 : f a S' with
    | ok b S2 =>
      rw [e2] at h'
      exact fun I2 H2 μ2 x2 w2 => h' I2 H2 μ2 (x.trans x2) w2
    | exc c S2 =>
      rw [e2] at h'
      exact fun I2 H2 μ2 x2 w2 => h' I2 H2 μ2 (x.trans x2) w2
    | stuck =>
      rw [e2] at h'
      exact h'
  | exc c S' =>
    rw [e] at h
    exact h
  | stuck =>
    rw [e] at h
    exact h
theorem Aft.bind {m : M α} {f : α → M β} {S : Sto} {G : β → Hp → Hp → Sto → List Addr → Prop} (h : Aft Y W σ I H μ ((m >>= f) S) G) :
    Aft Y W σ I H μ (m S) fun a I' H' S' μ' => Aft Y W σ I' H' μ' (f a S') G := Aft.bnd h
theorem Aft.here {a : α} {S : Sto} {G : α → Hp → Hp → Sto → List Addr → Prop} (h : Aft Y W σ I H μ (.ok a S) G) (w : Wd Y I H S μ) : G a I H S μ := h I H μ Ext.refl w
theorem Aft.ret {a : α} {S : Sto} {G : α → Hp → Hp → Sto → List Addr → Prop} (h : Aft Y W σ I H μ ((pure a : M α) S) G) (w : Wd Y I H S μ) : G a I H S μ := h I H μ Ext.refl w
theorem Aft.no {S : Sto} {G : α → Hp → Hp → Sto → List Addr → Prop} (h : Aft Y W σ I H μ ((M.stuck : M α) S) G) {p : Prop} : p := h.elim
theorem Aft.view {d : D} {v : V} {S : Sto} {G : D → Hp → Hp → Sto → List Addr → Prop} (w : Wd Y I H S μ) (hv : View Y I H μ d v) (h : Aft Y W σ I H μ (view d S) G) : ∃ d', Look Y I H μ d' v ∧ G d' I H S μ := by
  cases e : EV.view d S with
  | ok d' S' =>
    rw [e] at h
    obtain ⟨rfl, l⟩ := hv.look w e
    exact ⟨d', l, h I H μ Ext.refl w⟩
  | exc c S' =>
    cases d with
    | cell n =>
      have e' : (match S[n]? with
        | some (.lst ds) => (.ok (.lst ds) S : Res D)
        | _ => .stuck) = .exc c S' := e
      split at e' <;> cases e'
    | _ => cases e
  | stuck =>
    rw [e] at h
    exact h.elim
end
end EV

/-! EvOps: operators, comparisons, places, built-ins, by data. -/
namespace EV
open PySem PySem.Spec PyProof.Rows L2

theorem lim_eq : lim = sizeLine := rfl
theorem mono_PE {X : Cx} {e : Expr} {t t' : TE} (h : PE X e t) (k : ∀ σ H Q, t' σ H Q → t σ H Q) : PE X e t' := ⟨fun pins s σ H Q I q => h.run pins s σ H Q I (k σ H Q q)⟩
theorem mono_PT {X : Cx} {e : Expr} {t t' : TT} (h : PT X e t) (k : ∀ σ H Q, t' σ H Q → t σ H Q) : PT X e t' := ⟨fun pins s σ H Q I q => h.run pins s σ H Q I (k σ H Q q)⟩
theorem mono_PW {X : Cx} {e : Expr} {t t' : TT} (h : PW X e t) (k : ∀ σ H Q, t' σ H Q → t σ H Q) : PW X e t' := ⟨fun wh pins s σ H Q I q => h.run wh pins s σ H Q I (k σ H Q q)⟩
theorem mono_PA {X : Cx} {e : List Expr} {t t' : TA} (h : PA X e t) (k : ∀ σ H Q, t' σ H Q → t σ H Q) : PA X e t' := ⟨fun p pins s σ H Q I q => h.run p pins s σ H Q I (k σ H Q q)⟩

section
variable {Y : Fix} {W : WX} {σ : L2.St} {I H H0 : Hp} {S S' : Sto} {μ : List Addr}
/-- what is wanted of an expression's value; a list may be new -/
def Gv (Y : Fix) (Q : VK) : D → Hp → Hp → Sto → List Addr → Prop := fun d I' H' _ μ' => ∀ v, Rep Y I' μ' d v → Q v H'
def Gf (Y : Fix) (H0 : Hp) (Q : VK) : D → Hp → Hp → Sto → List Addr → Prop := fun d I' H' S' μ' => match d with
  | .lst ds => ∀ a vs, H' a = some (.lst vs) → I' a = none → a ∉ μ' → H0 a = none → ds.length ≤ sizeLine → Reps Y I' μ' ds vs → Q (.ref a) H'
  | d => ∀ v, Rep Y I' μ' d v → Q v H'
theorem Wd.fresh (w : Wd Y I H S μ) {p : Addr} (h : H p = none) : p ∉ μ := fun m => by
  obtain ⟨n, hn, e⟩ := List.getElem_of_mem m
  have hs : n < S.length := by rw [← w.len]; exact hn
  obtain ⟨a, e1, _, c⟩ := w.cell n S[n] (List.getElem?_eq_getElem hs)
  rw [List.getElem?_eq_getElem hn, e] at e1
  cases e1
  cases q : S[n] with
  | lst ds =>
    rw [q] at c
    obtain ⟨vs, h1, _⟩ := c
    rw [h] at h1; cases h1
  | ins fs =>
    rw [q] at c
    exact c.elim
theorem Wd.mono {I2 H2 : Hp} (w : Wd Y I H S μ) (s : Same I I2) (s2 : Same I2 H2) (n : ∀ a ∈ μ, I2 a = I a) (k : ∀ a ∈ μ, H2 a = H a) : Wd Y I2 H2 S μ := by
  refine ⟨s2, w.len, w.nd, fun i c e => ?_⟩
  obtain ⟨a, e1, e2, e3⟩ := w.cell i c e
  have m : a ∈ μ := List.mem_of_getElem? e1
  refine ⟨a, e1, by rw [n a m]; exact e2, ?_⟩
  cases c with
  | lst ds =>
    obtain ⟨vs, h1, h2, h3⟩ := e3
    exact ⟨vs, by rw [k a m]; exact h1, h2, h3.mono s (List.prefix_refl _)⟩
  | ins fs => exact e3.elim
theorem Same.upd2 {o : HO} {p : Addr} (s : Same I H) : Same (upd I p o) (upd H p o) := fun b u h => by
  by_cases e : b = p
  · subst e; rw [upd_same] at h ⊢; exact h
  · rw [upd_ne e] at h ⊢; exact s b u h
theorem Same.updN {o : HO} {p : Addr} (h : I p = none) : Same I (upd I p o) := fun b u e => by
  rw [upd_ne (ne_of_none e h)]; exact e
/-- a new object that never changes -/
theorem Wd.addI (w : Wd Y I H S μ) {p : Addr} {o : HO} (h : H p = none) : Wd Y (upd I p o) (upd H p o) S μ ∧ Ext I H μ (upd I p o) (upd H p o) μ := by
  have hi : I p = none := Same.free w.sub h
  have nm := w.fresh h
  refine ⟨w.mono (Same.updN hi) (Same.upd2 w.sub) (fun a m => upd_ne fun z => nm (z ▸ m)) (fun a m => upd_ne fun z => nm (z ▸ m)), ?_⟩
  refine ⟨Same.updN hi, List.prefix_refl _, fun a u e => ?_, fun a u e _ => by rw [upd_ne (ne_of_none e h)]; exact e, fun a u e => ⟨u, by rw [upd_ne (ne_of_none e h)]; exact e⟩, fun a m => .inl m⟩
  by_cases z : a = p
  · subst z; exact .inr h
  · rw [upd_ne z] at e; exact .inl e
/-- a new object that may change -/
theorem Wd.addH (w : Wd Y I H S μ) {p : Addr} {o : HO} (h : H p = none) : Wd Y I (upd H p o) S μ ∧ Ext I H μ I (upd H p o) μ := by
  have hi : I p = none := Same.free w.sub h
  have nm := w.fresh h
  refine ⟨w.mono (Same.refl _) (w.sub.trans (Same.updN h)) (fun a _ => rfl) (fun a m => upd_ne fun z => nm (z ▸ m)), ?_⟩
  exact ⟨Same.refl _, List.prefix_refl _, fun a u e => .inl e, fun a u e _ => by rw [upd_ne (ne_of_none e h)]; exact e, fun a u e => ⟨u, by rw [upd_ne (ne_of_none e h)]; exact e⟩, fun a m => .inl m⟩
/-- what was new becomes fixed -/
theorem Wd.fix (w : Wd Y I H S μ) {p : Addr} {o : HO} (h : H p = some o) (hi : I p = none) (nm : p ∉ μ) : Wd Y (upd I p o) H S μ := by
  refine w.mono (Same.updN hi) (fun b u e => ?_) (fun a m => upd_ne fun z => nm (z ▸ m)) (fun _ _ => rfl)
  by_cases z : b = p
  · subst z; rw [upd_same] at e; cases e; exact h
  · rw [upd_ne z] at e; exact w.sub b u e
theorem Ext.fix {I' H' : Hp} {μ' : List Addr} (e : Ext I H μ I' H' μ') {p : Addr} {o : HO} (hi : I' p = none) (h0 : H p = none) : Ext I H μ (upd I' p o) H' μ' := by
  refine ⟨e.sub.trans (Same.updN hi), e.mu, fun a u q => ?_, e.keep, e.there, e.fresh⟩
  by_cases z : a = p
  · subst z; exact .inr h0
  · rw [upd_ne z] at q; exact e.new a u q
theorem Gf_of {r : Res D} {Q : VK} (h : Aft Y W σ I H μ r (Gv Y Q)) : Aft Y W σ I H μ r (Gf Y H Q) := by
  cases r with
  | ok d S' =>
    intro I' H' μ' e w
    cases d with
    | lst ds =>
      intro a vs h1 h2 h3 h4 h5 h6
      exact h (upd I' a (.lst vs)) H' μ' (e.fix h2 h4) (w.fix h1 h2 h3) _ ⟨a, vs, rfl, upd_same, h5, h6.mono (Same.updN h2) (List.prefix_refl _)⟩
    | _ => exact h I' H' μ' e w
  | exc c S' => exact h
  | stuck => exact h
theorem fin_lst {ds : List D} {vs : List V} {Q : VK} (w : Wd Y I H S μ) (e0 : ∀ a, H a = none → H0 a = none) (z : ds.length ≤ sizeLine) (r : Reps Y I μ ds vs) (h : Aft Y W σ I H μ (.ok (.lst ds) S) (Gf Y H0 Q)) :
    ∀ p, H p = none → Q (.ref p) (upd H p (.lst vs)) := fun p hp => by
  obtain ⟨w', x⟩ := w.addH (o := .lst vs) hp
  exact h _ _ _ x w' p vs upd_same (Same.free w.sub hp) (w.fresh hp) (e0 p hp) z r
theorem fin_tup {ds : List D} {vs : List V} {Q : VK} (w : Wd Y I H S μ) (z : ds.length ≤ sizeLine) (r : Reps Y I μ ds vs) (h : Aft Y W σ I H μ (.ok (.tup ds) S) (Gf Y H0 Q)) :
    ∀ p, H p = none → Q (.ref p) (upd H p (.tup vs)) := fun p hp => by
  obtain ⟨w', x⟩ := w.addI (o := .tup vs) hp
  exact h _ _ _ x w' _ ⟨p, vs, rfl, upd_same, z, r.mono x.sub (List.prefix_refl _)⟩
theorem fin_rep {d : D} {v : V} {Q : VK} (w : Wd Y I H S μ) (nl : ∀ ds, d ≠ .lst ds) (r : Rep Y I μ d v) (h : Aft Y W σ I H μ (.ok d S) (Gf Y H0 Q)) : Q v H := by
  have q := h I H μ Ext.refl w
  cases d with
  | lst ds => exact absurd rfl (nl ds)
  | _ => exact q v r
theorem fin_int {i : Int} {Q : VK} (w : Wd Y I H S μ) (h : Aft Y W σ I H μ (.ok (.int i) S) (Gf Y H0 Q)) : Q (.int i) H := fin_rep (d := .int i) (v := .int i) w (fun _ z => nomatch z) rfl h
theorem fin_bl {i : Bool} {Q : VK} (w : Wd Y I H S μ) (h : Aft Y W σ I H μ (.ok (.bl i) S) (Gf Y H0 Q)) : Q (.bl i) H := fin_rep (d := .bl i) (v := .bl i) w (fun _ z => nomatch z) rfl h
theorem fin_str {x : Str} {Q : VK} (w : Wd Y I H S μ) (z : x.cps.size ≤ sizeLine) (h : Aft Y W σ I H μ (.ok (.str x) S) (Gf Y H0 Q)) : Q (.str x) H := fin_rep (d := .str x) (v := .str x) w (fun _ z => nomatch z) ⟨rfl, z⟩ h

theorem look_int {i : Int} {v : V} (l : Look Y I H μ (.int i) v) : v = .int i := l.rep fun _ z => nomatch z
theorem look_bl {i : Bool} {v : V} (l : Look Y I H μ (.bl i) v) : v = .bl i := l.rep fun _ z => nomatch z
theorem look_str {i : Str} {v : V} (l : Look Y I H μ (.str i) v) : v = .str i ∧ i.cps.size ≤ sizeLine := l.rep fun _ z => nomatch z
theorem look_non {v : V} (l : Look Y I H μ .non v) : v = .non := l.rep fun _ z => nomatch z

/-! ### two operands -/
/-- a tuple once is itself -/
theorem tuple_mul1 (l : Addr) (items : Array Value) (n : Nat) (dd : Option Addr) (sl : Array (Option Value)) (u : Tok) :
    Meets (Builtin.«tuple.__mul__» ⟨[.ref l, .int 1 u], []⟩) (fun _ R s => s.heap.get? l = some { cls := .type "tuple", dict := dd, data := .seq items n, slots := sl } ∧ R (.ok (.ret (Value.ref l))) s) :=
  .of_wp fun prog w A R s h => by
    obtain ⟨hp, g, d, tk, os⟩ := s
    obtain ⟨hl, h⟩ := h
    have f1 := AutoSeq1.idx_int
    wp_walk using wpAny_loadPart' hl
    repeat (first
      | (refine wpAny_ite_false (decide_eq_false (by decide)) ?_; wp_walk using wpAny_loadPart' hl)
      | (refine wpAny_ite_true (decide_eq_true (by simp)) ?_; wp_walk using wpAny_loadPart' hl))
    exact ⟨_, rfl, h⟩
def rRep1 (K : PySem.W.Frag) : R2 := fun x y H Q => ∃ l xs, x = .ref l ∧ y = .int 1 ∧ SqT K H l xs ∧ Q (.ref l) H
theorem op_rep1 {X : Cx} : OpR X (binaryOp .Mult) (rRep1 X.K) := by
  intro pins s σ H x y v u Q I rx ry h
  obtain ⟨l, xs, rfl, rfl, hT, q⟩ := h
  cases rx
  obtain ⟨t, rfl⟩ := ry
  obtain ⟨its, r, ⟨⟨cls, dd, data, sl⟩, ho, hc, n, hd⟩, hs⟩ := I.tuple hT
  simp only at hc hd
  subst hc hd
  refine wpAny_binaryOp_repeat_ref (T := "tuple") (U := "int") (by decide) ⟨_, ho, rfl⟩ (fun s' => typeIs_int s' 1 t) noFill_tuple_mul F.fills_int_mul F.slot_int_rmul repeat_tuple F.slot_int_index.lookup
    (call_meets F.slot_int_rmul (typeIs_int s 1 t) F.entry_int_rmul (F.args_int_rmul_2 _ _) (int_rmul_tuple 1 t l its.toArray n dd sl)
      ⟨ho, rfl, ⟨_, ho, rfl⟩, call_meets F.slot_tuple_mul ⟨_, ho, rfl⟩ F.entry_tuple_mul (F.args_tuple_mul_2 _ _) (tuple_mul1 l its.toArray n dd sl t) ⟨ho, ?_⟩⟩)
  exact ⟨.ref l, H, I, rfl, q⟩
/-- two factors of together less than 2^27 bits -/
def CMulL (i j : Int) : Prop := i.natAbs.log2 + j.natAbs.log2 < 134217000
def rB (K : PySem.W.Frag) : BOp → R2
  | .add => fun x y H Q => rI0 (fun i j => .int (i + j)) x y H Q ∨ (rCat x y H Q ∨ (rCatA K x y H Q ∨ ∃ i j, x = .str i ∧ y = .str j ∧ i.length + j.length ≤ sizeLine ∧ Q (.str (i ++ j)) H))
  | .sub => rI0 fun i j => .int (i - j)
  | .mul => fun x y H Q => rI CMulL (fun i j => .int (i * j)) x y H Q ∨ (rRep x y H Q ∨ (rRepT K x y H Q ∨ rRep1 K x y H Q))
  | .fdiv => rI (fun _ j => j ≠ 0 ∧ j.natAbs.log2 < 9000) fun i j => .int (i.fdiv j)
  | .mod => rI (fun _ j => j ≠ 0) fun i j => .int (i.fmod j)
  | .pow => rI CPow fun i j => .int (i ^ j.toNat)
def opOf : BOp → Operator
  | .add => .Add
  | .sub => .Sub
  | .mul => .Mult
  | .fdiv => .FloorDiv
  | .mod => .Mod
  | .pow => .Pow
theorem op_mulL {X : Cx} : OpR X (binaryOp .Mult) (rI CMulL fun i j => .int (i * j)) := opI fun i j _ _ _ _ _ hc q => mul_int q (CMulX.ok (by
  have b : ∀ x : Int, Builtin.Int.intBits x ≤ x.natAbs.log2 + 1 := fun x => by
    unfold Builtin.Int.intBits
    split <;> omega
  have h1 := b i
  have h2 := b j
  have h3 : i.natAbs.log2 + j.natAbs.log2 < 134217000 := hc
  unfold CMulX
  omega))
theorem op_fdivL {X : Cx} : OpR X (binaryOp .FloorDiv) (rI (fun _ j => j ≠ 0 ∧ j.natAbs.log2 < 9000) fun i j => .int (i.fdiv j)) :=
  opI fun _ _ _ _ _ _ _ hc q => floordiv_int hc.1 q (.inl (PyProof.noPylong_of_log2 hc.2))
theorem op_all {X : Cx} : ∀ op : BOp, OpR X (binaryOp (opOf op)) (rB X.K op)
  | .add => op_add.or (op_cat.or (op_catA.or op_add_str))
  | .sub => op_sub
  | .mul => op_mulL.or (op_rep.or (op_repT.or op_rep1))
  | .fdiv => op_fdivL
  | .mod => op_modN
  | .pow => op_pow
theorem bop_ok {op : BOp} {x y : D} {u v : V} {Q : VK} (w : Wd Y I H S μ) (e0 : ∀ a, H a = none → H0 a = none) (l1 : Look Y I H μ x u) (l2 : Look Y I H μ y v) (h : Aft Y W σ I H μ (bop op x y S) (Gf Y H0 Q)) : rB Y.K op u v H Q := by
  unfold bop at h
  split at h
  · -- ints
    cases look_int l1; cases look_int l2
    exact .inl ⟨_, _, rfl, rfl, fin_int w h⟩
  · -- tuples
    rename_i xs ys
    split at h
    · rename_i hz
      obtain ⟨a, us, rfl, h1, z1, r1⟩ := l1.tup w.sub
      obtain ⟨b, vs, rfl, h2, z2, r2⟩ := l2.tup w.sub
      have n1 := r1.length; have n2 := r2.length
      refine .inr (.inr (.inl ⟨a, b, us, vs, rfl, rfl, SqT.of h1, SqT.of h2, by rw [n1, n2]; exact hz, fun e => ?_, fun e1 e2 => ?_, fun _ _ => ?_⟩))
      · have ex : xs = [] := List.eq_nil_of_length_eq_zero (by rw [← n1, e]; rfl)
        subst ex
        exact fin_rep (d := .tup ys) (v := .ref b) w (fun _ z => nomatch z) (l2.rep fun _ z => nomatch z) h
      · have ex : ys = [] := List.eq_nil_of_length_eq_zero (by rw [← n2, e2]; rfl)
        subst ex
        rw [List.append_nil] at h
        exact fin_rep (d := .tup xs) (v := .ref a) w (fun _ z => nomatch z) (l1.rep fun _ z => nomatch z) h
      · exact fin_tup w (by rw [List.length_append]; exact hz) (r1.append r2) h
    · exact h.elim
  · -- lists
    rename_i xs ys
    split at h
    · rename_i hz
      obtain ⟨a, us, rfl, h1, z1, r1⟩ := l1.lst w.sub
      obtain ⟨b, vs, rfl, h2, z2, r2⟩ := l2.lst w.sub
      have n1 := r1.length; have n2 := r2.length
      exact .inr (.inl ⟨a, b, us, vs, rfl, rfl, h1, h2, by rw [n1, n2]; exact hz, fin_lst w e0 (by rw [List.length_append]; exact hz) (r1.append r2) h⟩)
    · exact h.elim
  · -- texts
    rename_i xs ys
    split at h
    · rename_i hz
      obtain ⟨rfl, _⟩ := look_str l1
      obtain ⟨rfl, _⟩ := look_str l2
      exact .inr (.inr (.inr ⟨_, _, rfl, rfl, hz, fin_str w (by
        show (xs.cps ++ ys.cps).size ≤ sizeLine
        rw [Array.size_append]; exact hz) h⟩))
    · exact h.elim
  · cases look_int l1; cases look_int l2
    exact ⟨_, _, rfl, rfl, fin_int w h⟩
  · split at h
    · rename_i hz
      cases look_int l1; cases look_int l2
      exact .inl ⟨_, _, rfl, rfl, (of_decide_eq_true hz : _ < _), fin_int w h⟩
    · exact h.elim
  · -- a list times
    rename_i xs k
    split at h
    · rename_i hz
      obtain ⟨a, us, rfl, h1, z1, r1⟩ := l1.lst w.sub
      cases look_int l2
      have n1 := r1.length
      have hlen : (List.replicate k.toNat xs).flatten.length ≤ sizeLine := by
        rw [List.length_flatten, List.map_replicate, List.sum_replicate_nat, Nat.mul_comm]; exact hz.2.2
      have hm : mx = 2 ^ 62 := rfl
      refine .inr (.inl ⟨a, k, us, rfl, rfl, h1, by omega, by omega, by rw [n1]; exact hz.2.2, ?_⟩)
      exact fin_lst w e0 hlen (r1.flat _) h
    · exact h.elim
  · -- a tuple times
    rename_i xs k
    split at h
    · rename_i hz
      obtain ⟨a, us, rfl, h1, z1, r1⟩ := l1.tup w.sub
      cases look_int l2
      have n1 := r1.length
      have hne : us ≠ [] := fun e => hz.2.2.2 (List.eq_nil_of_length_eq_zero (by rw [← n1, e]; rfl))
      have hlen : (List.replicate k.toNat xs).flatten.length ≤ sizeLine := by
        rw [List.length_flatten, List.map_replicate, List.sum_replicate_nat]
        have : k.toNat * xs.length ≤ 1000 * 1000 := Nat.mul_le_mul (by omega) hz.2.2.1
        exact Nat.le_trans this (by decide)
      by_cases hk : k = 1
      · subst hk
        have e : (List.replicate (1 : Int).toNat xs).flatten = xs := by simp
        rw [e] at h
        exact .inr (.inr (.inr ⟨a, us, rfl, rfl, SqT.of h1, fin_rep (d := .tup xs) (v := .ref a) w (fun _ z => nomatch z) (l1.rep fun _ z => nomatch z) h⟩))
      · exact .inr (.inr (.inl ⟨a, k, us, rfl, rfl, SqT.of h1, hne, by omega, hz.2.1, by rw [n1]; exact hz.2.2.1, fin_tup w hlen (r1.flat _) h⟩))
    · exact h.elim
  · split at h
    · rename_i hz
      cases look_int l1; cases look_int l2
      rw [divOk, Bool.and_eq_true] at hz
      exact ⟨_, _, rfl, rfl, ⟨of_decide_eq_true hz.1, of_decide_eq_true hz.2⟩, fin_int w h⟩
    · exact h.elim
  · split at h
    · rename_i hz
      cases look_int l1; cases look_int l2
      exact ⟨_, _, rfl, rfl, hz, fin_int w h⟩
    · exact h.elim
  · split at h
    · rename_i hz
      cases look_int l1; cases look_int l2
      rw [powOk, Bool.and_eq_true, Bool.and_eq_true] at hz
      exact ⟨_, _, rfl, rfl, ⟨of_decide_eq_true hz.1.1, of_decide_eq_true hz.1.2, of_decide_eq_true hz.2⟩, fin_int w h⟩
    · exact h.elim
  · exact h.elim
end
end EV

/-! EvOps2: comparisons, places, slices, truth, by data. -/
namespace EV
open PySem PySem.Spec PyProof.Rows L2

/-! ### data as the library has it -/
mutual
def toPy : D → PyData
  | .non => .none
  | .bl b => .bool b
  | .int i => .int i
  | .str x => .str x
  | .tup ds => .tuple (toPys ds)
  | .lst ds => .list (toPys ds)
  | .cell _ => .none
  | .fn _ => .none
  | .exc _ => .none
  | .obj _ => .none
  | .scr _ => .none
def toPys : List D → List PyData
  | [] => []
  | d :: ds => toPy d :: toPys ds
end
theorem toPys_eq : ∀ ds : List D, toPys ds = ds.map toPy
  | [] => rfl
  | d :: ds => by
    show toPy d :: toPys ds = toPy d :: ds.map toPy
    rw [toPys_eq ds]
theorem plain_lst {n : Nat} {ds : List D} (h : plain n (.lst ds) = true) : ∃ m, n = m + 1 ∧ ds.all (plain m) = true := by
  cases n with
  | zero => cases h
  | succ m => exact ⟨m, rfl, h⟩
theorem plain_tup {n : Nat} {ds : List D} (h : plain n (.tup ds) = true) : ∃ m, n = m + 1 ∧ ds.all (plain m) = true := by
  cases n with
  | zero => cases h
  | succ m => exact ⟨m, rfl, h⟩
mutual
theorem plain_lay : ∀ (d : D) (n : Nat), plain n d = true → (toPy d).canLay0 = true ∧ (toPy d).depth ≤ n
  | .non, _, _ => ⟨rfl, Nat.zero_le _⟩
  | .bl _, _, _ => ⟨rfl, Nat.zero_le _⟩
  | .int _, _, _ => ⟨rfl, Nat.zero_le _⟩
  | .str x, n, h => by
    cases n with
    | zero => cases h
    | succ m =>
      have h' : x.cps.toList.all (fun c => decide (c < 128)) = true := h
      refine ⟨?_, Nat.zero_le _⟩
      show x.cps.all (· < 0x110000) = true
      rw [← Array.all_toList, List.all_eq_true]
      intro c hc
      have := of_decide_eq_true (List.all_eq_true.mp h' c hc)
      exact decide_eq_true (by omega)
  | .tup ds, n, h => by
    obtain ⟨m, rfl, h'⟩ := plain_tup h
    obtain ⟨a, b⟩ := plain_lays ds m h'
    exact ⟨a, Nat.succ_le_succ b⟩
  | .lst ds, n, h => by
    obtain ⟨m, rfl, h'⟩ := plain_lst h
    obtain ⟨a, b⟩ := plain_lays ds m h'
    exact ⟨a, Nat.succ_le_succ b⟩
  | .cell _, _, _ => ⟨rfl, Nat.zero_le _⟩
  | .fn _, _, _ => ⟨rfl, Nat.zero_le _⟩
  | .exc _, _, _ => ⟨rfl, Nat.zero_le _⟩
  | .obj _, _, _ => ⟨rfl, Nat.zero_le _⟩
  | .scr _, _, _ => ⟨rfl, Nat.zero_le _⟩
theorem plain_lays : ∀ (ds : List D) (n : Nat), ds.all (plain n) = true → PyData.canLayAll0 (toPys ds) = true ∧ PyData.depthAll (toPys ds) ≤ n
  | [], _, _ => ⟨rfl, Nat.zero_le _⟩
  | d :: ds, n, h => by
    rw [List.all_cons, Bool.and_eq_true] at h
    obtain ⟨a, b⟩ := plain_lay d n h.1
    obtain ⟨a2, b2⟩ := plain_lays ds n h.2
    refine ⟨?_, Nat.max_le.mpr ⟨b, b2⟩⟩
    show ((toPy d).canLay0 && PyData.canLayAll0 (toPys ds)) = true
    rw [a, a2] <;> rfl
end
theorem plain_shaped {d : D} (h : plain 30 d = true) : SeqAt.shaped (toPy d) = true := by
  obtain ⟨a, b⟩ := plain_lay d 30 h
  show ((toPy d).canLay0 && decide ((toPy d).depth ≤ 64)) = true
  rw [a, decide_eq_true (Nat.le_trans b (by decide))] <;> rfl
mutual
theorem eqv_py : ∀ (d e : D) (n m : Nat), plain n d = true → plain m e = true → eqv d e = PyData.eqv (toPy d) (toPy e)
  | .non, e, _, m, _, h => by cases e <;> first | rfl | (cases m <;> cases h)
  | .bl _, e, _, m, _, h => by cases e <;> first | rfl | (cases m <;> cases h)
  | .int _, e, _, m, _, h => by cases e <;> first | rfl | (cases m <;> cases h)
  | .str _, e, _, m, _, h => by cases e <;> first | rfl | (cases m <;> cases h)
  | .tup ds, e, n, m, hd, h => by
    cases e with
    | tup es =>
      obtain ⟨n', rfl, h1⟩ := plain_tup hd
      obtain ⟨m', rfl, h2⟩ := plain_tup h
      exact eqvs_py ds es n' m' h1 h2
    | _ => first | rfl | (cases m <;> cases h)
  | .lst ds, e, n, m, hd, h => by
    cases e with
    | lst es =>
      obtain ⟨n', rfl, h1⟩ := plain_lst hd
      obtain ⟨m', rfl, h2⟩ := plain_lst h
      exact eqvs_py ds es n' m' h1 h2
    | _ => first | rfl | (cases m <;> cases h)
  | .cell _, _, n, _, h, _ => by cases n <;> cases h
  | .fn _, _, n, _, h, _ => by cases n <;> cases h
  | .exc _, _, n, _, h, _ => by cases n <;> cases h
  | .obj _, _, n, _, h, _ => by cases n <;> cases h
  | .scr _, _, n, _, h, _ => by cases n <;> cases h
theorem eqvs_py : ∀ (ds es : List D) (n m : Nat), ds.all (plain n) = true → es.all (plain m) = true → eqvs ds es = PyData.eqvAll (toPys ds) (toPys es)
  | [], [], _, _, _, _ => rfl
  | [], _ :: _, _, _, _, _ => rfl
  | _ :: _, [], _, _, _, _ => rfl
  | d :: ds, e :: es, n, m, h1, h2 => by
    rw [List.all_cons, Bool.and_eq_true] at h1 h2
    show (eqv d e && eqvs ds es) = (PyData.eqv (toPy d) (toPy e) && PyData.eqvAll (toPys ds) (toPys es))
    rw [eqv_py d e n m h1.1 h2.1, eqvs_py ds es n m h1.2 h2.2]
end
section
variable {Y : Fix} {W : WX} {σ : L2.St} {I H H0 : Hp} {S S' : Sto} {μ : List Addr}
mutual
theorem Rep.dp (s : Same I H) : ∀ (d : D) (v : V) (n : Nat), plain n d = true → Rep Y I μ d v → Dp Y.K H v (toPy d)
  | .non, _, _, _, h => by cases (show _ = V.non from h); exact .non
  | .bl b, _, _, _, h => by cases (show _ = V.bl b from h); exact .bl b
  | .int i, _, _, _, h => by cases (show _ = V.int i from h); exact .int i
  | .str x, _, _, _, h => by cases h.1; exact .str x
  | .tup ds, _, n, p, ⟨a, vs, e, h, z, r⟩ => by
    obtain ⟨m, rfl, p'⟩ := plain_tup p
    subst e
    exact .tup (SqT.of (s _ _ h)) (Reps.dp s ds vs m p' r)
  | .lst ds, _, n, p, ⟨a, vs, e, h, z, r⟩ => by
    obtain ⟨m, rfl, p'⟩ := plain_lst p
    subst e
    exact .lst (SqL.of (s _ _ h)) (Reps.dp s ds vs m p' r)
  | .cell _, _, n, h, _ => by cases n <;> cases h
  | .fn _, _, n, h, _ => by cases n <;> cases h
  | .exc _, _, n, h, _ => by cases n <;> cases h
  | .obj _, _, n, h, _ => by cases n <;> cases h
  | .scr _, _, n, h, _ => by cases n <;> cases h
theorem Reps.dp (s : Same I H) : ∀ (ds : List D) (vs : List V) (n : Nat), ds.all (plain n) = true → Reps Y I μ ds vs → DpAll Y.K H vs (toPys ds)
  | [], _, _, _, h => by cases (show _ = ([] : List V) from h); exact .nil
  | d :: ds, _, n, p, ⟨v, r, e, h, t⟩ => by
    rw [List.all_cons, Bool.and_eq_true] at p
    subst e
    exact .cons (Rep.dp s d v n p.1 h) (Reps.dp s ds r n p.2 t)
end
theorem Look.dp (s : Same I H) {d : D} {v : V} {n : Nat} (p : plain n d = true) (l : Look Y I H μ d v) : Dp Y.K H v (toPy d) := by
  rcases l with h | ⟨ds, a, vs, rfl, rfl, h, z, r⟩
  · exact h.dp s d v n p
  · obtain ⟨m, rfl, p'⟩ := plain_lst p
    exact .lst (SqL.of h) (Reps.dp s ds vs m p' r)
end

/-! ### comparisons -/
def rInDT (K : PySem.W.Frag) : R2 := fun x y H Q => ∃ d ds, Dp K H x d ∧ Dp K H y (.tuple ds) ∧ SeqAt.shaped d = true ∧ SeqAt.shaped (.tuple ds) = true ∧ Q (.bl (ds.any fun z => PyData.eqv z d)) H
def rNotInDT (K : PySem.W.Frag) : R2 := fun x y H Q => ∃ d ds, Dp K H x d ∧ Dp K H y (.tuple ds) ∧ SeqAt.shaped d = true ∧ SeqAt.shaped (.tuple ds) = true ∧ Q (.bl (!ds.any fun z => PyData.eqv z d)) H
section
variable {X : Cx}
theorem room_tup {A : Around} {d : PyData} {ds : List PyData} (sd : SeqAt.shaped d = true) (hu : A.units + 65 < cLine) : A.units + 1 + min (PyData.depthAll ds) d.depth < cLine := by
  have h1 := SeqAt.depth_of_shaped sd
  have h2 : min (PyData.depthAll ds) d.depth ≤ d.depth := Nat.min_le_right _ _
  omega
theorem op_inDT (hu : X.A.units + 65 < cLine) : OpR X (compareOp .In) (rInDT X.K) := by
  intro pins s σ H x y v u Q I rx ry h
  obtain ⟨d, ds, hd, he, sd, se, q⟩ := h
  obtain ⟨as, r1⟩ := Dp.reads I d x v hd rx
  obtain ⟨bs, r2⟩ := Dp.reads I (.tuple ds) y u he ry
  exact SeqAt.in_tuple_reads r2 r1 (SeqAt.canLay_of_shaped se) (SeqAt.canLay_of_shaped sd) (room_tup sd hu) ⟨.bl _, H, I, rfl, q⟩
theorem op_notInDT (hu : X.A.units + 65 < cLine) : OpR X (compareOp .NotIn) (rNotInDT X.K) := by
  intro pins s σ H x y v u Q I rx ry h
  obtain ⟨d, ds, hd, he, sd, se, q⟩ := h
  obtain ⟨as, r1⟩ := Dp.reads I d x v hd rx
  obtain ⟨bs, r2⟩ := Dp.reads I (.tuple ds) y u he ry
  exact SeqAt.notIn_tuple_reads r2 r1 (SeqAt.canLay_of_shaped se) (SeqAt.canLay_of_shaped sd) (room_tup sd hu) ⟨.bl _, H, I, rfl, q⟩
end
def rSign (neg : Bool) : R2 := fun x y H Q => ∃ (c : Nat) (z : Str), x = .str ⟨#[c]⟩ ∧ y = .str z ∧ Q (.bl (if neg then !decide (c ∈ z.cps.toList) else decide (c ∈ z.cps.toList))) H
def rIsA (neg : Bool) : R2 := fun x y H Q => (y = .non ∧ Q (.bl (if neg then !decide (x = .non) else decide (x = .non))) H) ∨ ∃ a b, x = .bl a ∧ y = .bl b ∧ Q (.bl (if neg then !decide (a = b) else decide (a = b))) H
def copOf : COp → CmpOp
  | .eq => .Eq
  | .ne => .NotEq
  | .lt => .Lt
  | .le => .LtE
  | .gt => .Gt
  | .ge => .GtE
  | .is => .Is
  | .isNot => .IsNot
  | .isin => .In
  | .notIn => .NotIn
def rC (K : PySem.W.Frag) : COp → R2
  | .eq => rEqD K
  | .ne => rNeD K
  | .lt => rI0 fun i j => .bl (decide (i < j))
  | .le => rI0 fun i j => .bl (decide (i ≤ j))
  | .gt => rI0 fun i j => .bl (decide (j < i))
  | .ge => rI0 fun i j => .bl (decide (j ≤ i))
  | .is => rIsA false
  | .isNot => rIsA true
  | .isin => fun x y H Q => rInD K x y H Q ∨ (rInDT K x y H Q ∨ rSign false x y H Q)
  | .notIn => fun x y H Q => rNotInD K x y H Q ∨ (rNotInDT K x y H Q ∨ rSign true x y H Q)
theorem cop_all {X : Cx} (hu : X.A.units + 65 < cLine) : ∀ op : COp, OpR X (compareOp (copOf op)) (rC X.K op)
  | .eq => op_eqD (by omega)
  | .ne => op_neD (by omega)
  | .lt => op_lt
  | .le => op_le
  | .gt => op_gt
  | .ge => op_ge
  | .is => op_isN.or op_isBl
  | .isNot => op_notN.or op_notBl
  | .isin => (op_inD hu).or ((op_inDT hu).or op_in_sign)
  | .notIn => (op_notInD hu).or ((op_notInDT hu).or op_notIn_sign)
section
variable {Y : Fix} {W : WX} {σ : L2.St} {I H H0 : Hp} {S S' : Sto} {μ : List Addr}
theorem any_py {ds : List D} {x : D} {n : Nat} (h : ds.all (plain n) = true) (hx : plain 30 x = true) : (ds.any fun z => eqv z x) = ((toPys ds).any fun z => PyData.eqv z (toPy x)) := by
  induction ds with
  | nil => rfl
  | cons d ds ih =>
    rw [List.all_cons, Bool.and_eq_true] at h
    show (eqv d x || ds.any fun z => eqv z x) = (PyData.eqv (toPy d) (toPy x) || (toPys ds).any fun z => PyData.eqv z (toPy x))
    rw [ih h.2, eqv_py d x n 30 h.1 hx]
theorem isIn_ok {x y : D} {u v : V} {G : Bool → Hp → Hp → Sto → List Addr → Prop} (w : Wd Y I H S μ) (l1 : Look Y I H μ x u) (l2 : Look Y I H μ y v) (h : Aft Y W σ I H μ (isIn x y S) G) :
    ∃ b, G b I H S μ ∧ ((∃ d ds, Dp Y.K H u d ∧ Dp Y.K H v (.list ds) ∧ SeqAt.shaped d = true ∧ SeqAt.shaped (.list ds) = true ∧ b = (ds.any fun z => PyData.eqv z d)) ∨
      (∃ d ds, Dp Y.K H u d ∧ Dp Y.K H v (.tuple ds) ∧ SeqAt.shaped d = true ∧ SeqAt.shaped (.tuple ds) = true ∧ b = (ds.any fun z => PyData.eqv z d)) ∨ ∃ (c : Nat) (z : Str), u = .str ⟨#[c]⟩ ∧ v = .str z ∧ b = decide (c ∈ z.cps.toList)) := by
  unfold isIn at h
  split at h
  · rename_i ds
    split at h
    · rename_i hp
      rw [Bool.and_eq_true] at hp
      obtain ⟨m, e, pa⟩ := plain_lst hp.2
      exact ⟨_, h.ret w, .inl ⟨_, _, l1.dp w.sub hp.1, l2.dp w.sub hp.2, plain_shaped hp.1, plain_shaped hp.2, any_py pa hp.1⟩⟩
    · exact h.elim
  · rename_i ds
    split at h
    · rename_i hp
      rw [Bool.and_eq_true] at hp
      obtain ⟨m, e, pa⟩ := plain_tup hp.2
      exact ⟨_, h.ret w, .inr (.inl ⟨_, _, l1.dp w.sub hp.1, l2.dp w.sub hp.2, plain_shaped hp.1, plain_shaped hp.2, any_py pa hp.1⟩)⟩
    · exact h.elim
  · rename_i z
    split at h
    · rename_i c
      split at h
      · rename_i hc
        obtain ⟨rfl, _⟩ := look_str l1
        obtain ⟨rfl, _⟩ := look_str l2
        obtain ⟨⟨l⟩⟩ := c
        match l, hc with
        | [k], _ => exact ⟨_, h.ret w, .inr (.inr ⟨k, z, rfl, rfl, rfl⟩)⟩
      · exact h.elim
    · exact h.elim
  · exact h.elim
theorem isIt_ok {x y : D} {u v : V} {G : Bool → Hp → Hp → Sto → List Addr → Prop} (w : Wd Y I H S μ) (l1 : Look Y I H μ x u) (l2 : Look Y I H μ y v) (h : Aft Y W σ I H μ (isIt x y S) G) :
    ∃ b, G b I H S μ ∧ ((v = .non ∧ b = decide (u = .non)) ∨ ∃ a c, u = .bl a ∧ v = .bl c ∧ b = decide (a = c)) := by
  unfold isIt at h
  split at h
  · refine ⟨_, h.ret w, .inl ⟨look_non l2, ?_⟩⟩
    split
    · cases look_non l1; rfl
    · rename_i hn
      refine (decide_eq_false fun e => ?_).symm
      subst e
      rcases l1 with r | ⟨_, _, _, _, e, _⟩
      · cases x with
        | non => exact hn rfl
        | bl _ => cases (show V.non = _ from r)
        | int _ => cases (show V.non = _ from r)
        | str _ => cases r.1
        | tup _ => obtain ⟨_, _, e, _⟩ := r; cases e
        | lst _ => obtain ⟨_, _, e, _⟩ := r; cases e
        | cell _ => obtain ⟨_, e, _⟩ := r; cases e
        | fn _ => obtain ⟨_, e, _⟩ := r; cases e
        | exc _ => cases (show V.non = _ from r)
        | obj _ => exact r.elim
        | scr _ => obtain ⟨_, e, _⟩ := r; cases e
      · cases e
  · split at h
    · cases look_bl l1; cases look_bl l2
      exact ⟨_, h.ret w, .inr ⟨_, _, rfl, rfl, by rw [Bool.beq_eq_decide_eq]⟩⟩
    · exact h.elim
  · exact h.elim
theorem cop_ok {op : COp} {x y : D} {u v : V} {Q : VK} (w : Wd Y I H S μ) (l1 : Look Y I H μ x u) (l2 : Look Y I H μ y v) (h : Aft Y W σ I H μ (cop op x y S) (Gf Y H0 Q)) : rC Y.K op u v H Q := by
  unfold cop at h
  split at h
  · unfold eqD at h
    split at h
    · rename_i hp
      rw [Bool.and_eq_true] at hp
      exact ⟨_, _, l1.dp w.sub hp.1, l2.dp w.sub hp.2, plain_shaped hp.1, plain_shaped hp.2, by rw [← eqv_py _ _ 30 30 hp.1 hp.2]; exact fin_bl w h⟩
    · exact h.elim
  · unfold neD at h
    split at h
    · rename_i hp
      rw [Bool.and_eq_true] at hp
      exact ⟨_, _, l1.dp w.sub hp.1, l2.dp w.sub hp.2, plain_shaped hp.1, plain_shaped hp.2, by rw [← eqv_py _ _ 30 30 hp.1 hp.2]; exact fin_bl w h⟩
    · exact h.elim
  · cases look_int l1; cases look_int l2
    exact ⟨_, _, rfl, rfl, fin_bl w h⟩
  · cases look_int l1; cases look_int l2
    exact ⟨_, _, rfl, rfl, fin_bl w h⟩
  · cases look_int l1; cases look_int l2
    exact ⟨_, _, rfl, rfl, fin_bl w h⟩
  · cases look_int l1; cases look_int l2
    exact ⟨_, _, rfl, rfl, fin_bl w h⟩
  · obtain ⟨b, q, hb⟩ := isIn_ok w l1 l2 h.bind
    have q' := fin_bl w q
    rcases hb with ⟨d, ds, h1, h2, h3, h4, rfl⟩ | ⟨d, ds, h1, h2, h3, h4, rfl⟩ | ⟨c, z, rfl, rfl, rfl⟩
    · exact .inl ⟨d, ds, h1, h2, h3, h4, q'⟩
    · exact .inr (.inl ⟨d, ds, h1, h2, h3, h4, q'⟩)
    · exact .inr (.inr ⟨c, z, rfl, rfl, q'⟩)
  · obtain ⟨b, q, hb⟩ := isIn_ok w l1 l2 h.bind
    have q' := fin_bl w q
    rcases hb with ⟨d, ds, h1, h2, h3, h4, rfl⟩ | ⟨d, ds, h1, h2, h3, h4, rfl⟩ | ⟨c, z, rfl, rfl, rfl⟩
    · exact .inl ⟨d, ds, h1, h2, h3, h4, q'⟩
    · exact .inr (.inl ⟨d, ds, h1, h2, h3, h4, q'⟩)
    · exact .inr (.inr ⟨c, z, rfl, rfl, q'⟩)
  · obtain ⟨b, q, hb⟩ := isIt_ok w l1 l2 h.bind
    have q' := fin_bl w q
    rcases hb with ⟨h1, rfl⟩ | ⟨a, c, h1, h2, rfl⟩
    · exact .inl ⟨h1, q'⟩
    · exact .inr ⟨a, c, h1, h2, q'⟩
  · obtain ⟨b, q, hb⟩ := isIt_ok w l1 l2 h.bind
    have q' := fin_bl w q
    rcases hb with ⟨h1, rfl⟩ | ⟨a, c, h1, h2, rfl⟩
    · exact .inl ⟨h1, q'⟩
    · exact .inr ⟨a, c, h1, h2, q'⟩
  · exact h.elim

/-! ### truth -/
theorem truth_ok {x : D} {u : V} {G : Bool → Hp → Hp → Sto → List Addr → Prop} (w : Wd Y I H S μ) (l1 : Look Y I H μ x u) (h : Aft Y W σ I H μ (truth x S) G) : ∃ b, TruV Y.K u H b ∧ G b I H S μ := by
  cases x with
  | non => cases look_non l1; exact ⟨_, rfl, h.ret w⟩
  | bl b => cases look_bl l1; exact ⟨_, rfl, h.ret w⟩
  | int i => cases look_int l1; exact ⟨_, rfl, h.ret w⟩
  | str z =>
    obtain ⟨rfl, hz⟩ := look_str l1
    refine ⟨_, ⟨hz, ?_⟩, h.ret w⟩
    show (sLen z != 0) = (((sLen z : Nat) : Int) != 0)
    by_cases e : sLen z = 0
    · rw [e]; rfl
    · rw [bne_iff_ne.mpr e, bne_iff_ne.mpr (by omega)]
  | tup ds =>
    obtain ⟨a, vs, rfl, h1, z1, r1⟩ := l1.tup w.sub
    refine ⟨_, .inr (.inl ⟨vs, SqT.of h1, ?_⟩), h.ret w⟩
    have n1 := r1.length
    cases ds <;> cases vs <;> first | rfl | (simp at n1)
  | lst ds =>
    obtain ⟨a, vs, rfl, h1, z1, r1⟩ := l1.lst w.sub
    refine ⟨_, .inl ⟨vs, SqL.of h1, ?_⟩, h.ret w⟩
    have n1 := r1.length
    cases ds <;> cases vs <;> first | rfl | (simp at n1)
  | cell _ => exact h.elim
  | fn _ => exact h.elim
  | exc _ => exact h.elim
  | obj _ => exact h.elim
  | scr _ => exact h.elim

/-! ### places -/
theorem str1_ok {c : Nat} : Rep Y I μ (.str ⟨#[c]⟩) (.str ⟨#[c]⟩) := ⟨rfl, by show 1 ≤ sizeLine; decide⟩
theorem Gf_rep {d : D} {v : V} {Q : VK} (w : Wd Y I H S μ) (r : Rep Y I μ d v) (h : Aft Y W σ I H μ (.ok d S) (Gv Y Q)) : Q v H := h I H μ Ext.refl w v r
theorem atI_ok {ds : List D} {i : Int} {Q : VK} {vs : List V} (w : Wd Y I H S μ) (r : Reps Y I μ ds vs) (h : Aft Y W σ I H μ (atI ds i S) (Gv Y Q)) : ∃ v, L2.atI vs i = some v ∧ Q v H := by
  cases hk : EV.ixN ds.length i with
  | none =>
    have e : EV.atI ds i = M.stuck := by unfold EV.atI; rw [hk]
    rw [e] at h
    exact h.elim
  | some k =>
    cases hd : ds[k]? with
    | none =>
      have e : EV.atI ds i = M.stuck := by unfold EV.atI; rw [hk]; dsimp only; rw [hd]
      rw [e] at h
      exact h.elim
    | some d =>
      have e : EV.atI ds i = pure d := by unfold EV.atI; rw [hk]; dsimp only; rw [hd]
      rw [e] at h
      obtain ⟨v, hv, rv⟩ := r.get hd
      refine ⟨v, ?_, Gf_rep w rv h⟩
      have e : L2.ixN vs.length i = some k := by rw [r.length]; exact hk
      unfold L2.atI
      rw [e]
      exact hv
theorem reps_map {α : Type} {f : α → D} {g : α → V} (h : ∀ a, Rep Y I μ (f a) (g a)) : ∀ l : List α, Reps Y I μ (l.map f) (l.map g)
  | [] => Reps.nil
  | a :: l => Reps.cons (h a) (reps_map h l)
theorem index_ok {x y : D} {u v : V} {Q : VK} (w : Wd Y I H S μ) (l1 : Look Y I H μ x u) (l2 : Look Y I H μ y v) (h : Aft Y W σ I H μ (index x y S) (Gv Y Q)) : rIx Y.K u v H Q := by
  unfold index at h
  split at h
  · obtain ⟨a, vs, rfl, h1, z1, r1⟩ := l1.lst w.sub
    cases look_int l2
    obtain ⟨z, e, q⟩ := atI_ok w r1 h
    exact .inl ⟨a, vs, _, z, rfl, rfl, SqL.of h1, e, q⟩
  · obtain ⟨a, vs, rfl, h1, z1, r1⟩ := l1.tup w.sub
    cases look_int l2
    obtain ⟨z, e, q⟩ := atI_ok w r1 h
    exact .inr (.inl ⟨a, vs, _, z, rfl, rfl, SqT.of h1, e, q⟩)
  · rename_i x i
    obtain ⟨rfl, hz⟩ := look_str l1
    cases look_int l2
    obtain ⟨z, e, q⟩ := atI_ok w (reps_map (f := fun c => D.str ⟨#[c]⟩) (g := fun c => V.str ⟨#[c]⟩) (fun c => str1_ok) x.cps.toList) h
    refine .inr (.inr ⟨x, i, ?_⟩)
    unfold L2.atI at e
    rw [List.length_map] at e
    cases hk : L2.ixN x.cps.toList.length i with
    | none => rw [hk] at e; cases e
    | some k =>
      rw [hk] at e
      have e' : (x.cps.toList.map fun c => V.str ⟨#[c]⟩)[k]? = some z := e
      rw [List.getElem?_map] at e'
      cases hc : x.cps.toList[k]? with
      | none => rw [hc] at e'; cases e'
      | some c =>
        rw [hc] at e'
        have ez : V.str ⟨#[c]⟩ = z := Option.some.inj e'
        refine ⟨c, rfl, rfl, hz, ?_, by rw [ez]; exact q⟩
        unfold L2.atI
        rw [hk]
        exact hc
  · rename_i ns i
    have r := l1.rep (fun _ z => nomatch z)
    obtain ⟨a, rfl, hs⟩ := r
    cases look_int l2
    obtain ⟨z, e, q⟩ := atI_ok w (reps_map (f := D.int) (g := V.int) (fun c => rfl) ns) h
    exact .inl ⟨a, _, _, z, rfl, rfl, Same.seq w.sub hs, e, q⟩
  · exact h.elim

/-! ### slices -/
theorem cut_len {α : Type} (xs : List α) (lo hi : Option Int) : (cut xs lo hi).length ≤ xs.length := by
  unfold cut
  rw [List.length_take, List.length_drop]
  omega
theorem cut_reps {ds : List D} {vs : List V} (r : Reps Y I μ ds vs) (lo hi : Option Int) : Reps Y I μ (cut ds lo hi) (cutV vs lo hi) := by
  unfold cutV
  rw [r.length]
  exact (r.drop).take
theorem slice_ok {x : D} {u : V} {lo hi : Option Int} {Q : VK} (w : Wd Y I H S μ) (e0 : ∀ a, H a = none → H0 a = none) (l1 : Look Y I H μ x u) (h : Aft Y W σ I H μ (slice x lo hi S) (Gf Y H0 Q)) :
    rSlL Y.K u lo hi H Q ∨ (rSlA Y.K u lo hi H Q ∨ rSlS u lo hi H Q) := by
  unfold slice at h
  split at h
  · obtain ⟨a, vs, rfl, h1, z1, r1⟩ := l1.lst w.sub
    exact .inl ⟨a, vs, rfl, SqL.of h1, fin_lst w e0 (Nat.le_trans (cut_len _ _ _) z1) (cut_reps r1 lo hi) h⟩
  · rename_i ds
    obtain ⟨a, vs, rfl, h1, z1, r1⟩ := l1.tup w.sub
    refine .inr (.inl ⟨a, vs, rfl, SqT.of h1, fun hw => ?_, fun _ => fin_tup w (Nat.le_trans (cut_len _ _ _) z1) (cut_reps r1 lo hi) h⟩)
    have e : cut ds lo hi = ds := by
      rw [r1.length] at hw
      unfold cut
      rw [show sEnd ds.length 0 lo = 0 from hw.1, show sEnd ds.length ds.length hi = ds.length from hw.2]
      simp
    rw [e] at h
    exact fin_rep (d := .tup ds) (v := .ref a) w (fun _ z => nomatch z) (l1.rep fun _ z => nomatch z) h
  · rename_i z
    obtain ⟨rfl, hz⟩ := look_str l1
    refine .inr (.inr ⟨z, rfl, hz, fin_str w ?_ h⟩)
    have q := cut_len z.cps.toList lo hi
    have q2 : (cut z.cps.toList lo hi).toArray.size ≤ sizeLine := by
      rw [List.size_toArray]
      have q3 : z.cps.toList.length = z.cps.size := Array.length_toList
      omega
    exact q2
  · exact h.elim
end
end EV

/-! EvExp: what is checked of the text, and the readings of expressions. -/
namespace EV
open PySem PySem.Spec PyProof.Rows L2

/-! ### the check: does an expression of the text say this? -/
structure Names where
  nm : Nat → Str
  gn : Nat → Str
  xn : Nat → Str
  has : Nat → Bool
def notStar : Expr → Bool
  | .Starred .. => false
  | _ => true
def notSlice : Expr → Bool
  | .Slice .. => false
  | _ => true
def visB (sc : Scope) (x : Str) : Bool := (match sc.names.lookup x with
  | some .local => true
  | some .cell => true
  | some .free => true
  | _ => false) && !(x == ("__debug__" : Str)) && !(x == ("__classdict__" : Str))
def locB (sc : Scope) (x : Str) : Bool := match sc.names.lookup x with
  | some .local => true
  | some .cell => true
  | _ => false
def glB (sc : Scope) (x : Str) : Bool := (match sc.names.lookup x with
  | some .globalImplicit => true
  | _ => false) && !(x == ("__debug__" : Str)) && !(x == ("__name__" : Str))
def bname : Bf → Option Str
  | .len => some "len"
  | .abs => some "abs"
  | .int => some "int"
  | .sum => some "sum"
  | .tuple => some "tuple"
  | .list => some "list"
  | .min2 => some "min"
  | _ => none
def tname : Ty → Str
  | .int => "int"
  | .bool => "bool"
  | .tuple => "tuple"
  | .str => "str"
def blts : List Str := ["len", "abs", "int", "sum", "tuple", "list", "min", "range", "enumerate", "zip", "isinstance", "str", "bool", "set", "sorted"]
/-- the parts of what a loop walks -/
def iterArgs (sc : Scope) : It → Expr → Option (List Expr)
  | .seq, e => some [e]
  | .range1, e => match e with
    | .Call (.Name x _) [a] [] _ => if x = "range" ∧ glB sc x = true then some [a] else none
    | _ => none
  | .range2, e => match e with
    | .Call (.Name x _) [a, b] [] _ => if x = "range" ∧ glB sc x = true then some [a, b] else none
    | _ => none
  | .enum, e => match e with
    | .Call (.Name x _) [a] [] _ => if x = "enumerate" ∧ glB sc x = true then some [a] else none
    | _ => none
  | .zip, e => match e with
    | .Call (.Name x _) [a, b] [] _ => if x = "zip" ∧ glB sc x = true then some [a, b] else none
    | _ => none
def ownOf (N : List Str) (own : List Nat) : List (Str × Nat) := own.map fun i => (N.getD i "", i)
def chkNm (N : List Str) (sc : Scope) (i : Nat) : Expr → Bool
  | .Name x _ => decide (N[i]? = some x) && locB sc x
  | _ => false
def chkNs (N : List Str) (sc : Scope) : List Nat → List Expr → Bool
  | [], [] => true
  | i :: is, e :: es => chkNm N sc i e && chkNs N sc is es
  | _, _ => false
def kOne : It → Bool
  | .enum => false
  | .zip => false
  | _ => true
def chkTs (N : List Str) (sc : Scope) (is : List Nat) : Expr → Bool
  | .Tuple es _ _ => chkNs N sc is es
  | _ => false
def chkT (N : List Str) (k : It) (sc : Scope) : Tg → Expr → Bool
  | .one i, e => kOne k && chkNm N sc i e
  | .many is, e => chkTs N sc is e
def idx : Tg → List Nat
  | .one i => [i]
  | .many is => is
section
variable (Z : Names) (N : List Str)
mutual
def chkE : ME → Scope → Expr → Bool
  | .var i, sc, e => match e with
    | .Name x _ => decide (N[i]? = some x) && visB sc x
    | _ => false
  | .int i, _, e => match e with
    | .Constant (.int j) _ _ => decide (i = j)
    | _ => false
  | .bl b, _, e => match e with
    | .Constant (.bool c) _ _ => b == c
    | _ => false
  | .non, _, e => match e with
    | .Constant .none _ _ => true
    | _ => false
  | .str x, _, e => match e with
    | .Constant (.str y) _ _ => decide (x = y) && decide (x.cps.size ≤ 100000)
    | _ => false
  | .glo g, sc, e => match e with
    | .Name x _ => decide (Z.gn g = x) && glB sc x
    | _ => false
  | .gfn f, sc, e => match e with
    | .Name x _ => decide (Z.nm f = x) && glB sc x && Z.has f
    | _ => false
  | .tup es, sc, e => match e with
    | .Tuple xs _ _ => chkA es sc xs
    | _ => false
  | .lst es, sc, e => match e with
    | .List xs _ => chkA es sc xs
    | _ => false
  | .bin op a b, sc, e => match e with
    | .BinOp x o y _ => decide (o = opOf op) && chkE a sc x && chkE b sc y
    | _ => false
  | .neg a, sc, e => match e with
    | .UnaryOp .USub x _ => chkE a sc x
    | _ => false
  | .not a, sc, e => match e with
    | .UnaryOp .Not x _ => chkE a sc x
    | _ => false
  | .and a b, sc, e => match e with
    | .BoolOp .And (x :: y :: r) pos => chkE a sc x && (match r with
      | [] => chkE b sc y
      | r => chkE b sc (.BoolOp .And (y :: r) pos))
    | _ => false
  | .or a b, sc, e => match e with
    | .BoolOp .Or (x :: y :: r) pos => chkE a sc x && (match r with
      | [] => chkE b sc y
      | r => chkE b sc (.BoolOp .Or (y :: r) pos))
    | _ => false
  | .cmp op a b, sc, e => match e with
    | .Compare x [o] [y] _ => decide (o = copOf op) && chkE a sc x && chkE b sc y && !(behindInMarks o y)
    | _ => false
  | .chain op op' a b c, sc, e => match e with
    | .Compare x [o, o'] [y, z] _ => decide (o = copOf op) && decide (o' = copOf op') && chkE a sc x && chkE b sc y && chkE c sc z && !(behindInMarks o' z)
    | _ => false
  | .ite c a b, sc, e => match e with
    | .IfExp t x y _ => chkE c sc t && chkE a sc x && chkE b sc y
    | _ => false
  | .ix a i, sc, e => match e with
    | .Subscript x y _ => chkE a sc x && chkE i sc y && notSlice y
    | _ => false
  | .sl a lo hi, sc, e => match e with
    | .Subscript x (.Slice l h none _) _ => chkE a sc x && (match lo, l with
      | .nothing, none => true
      | .nothing, _ => false
      | lo, some l => chkE lo sc l
      | _, none => false) && (match hi, h with
      | .nothing, none => true
      | .nothing, _ => false
      | hi, some h => chkE hi sc h
      | _, none => false)
    | _ => false
  | .call f es, sc, e => match e with
    | .Call (.Name x _) as [] _ => decide (Z.nm f = x) && glB sc x && Z.has f && chkA es sc as
    | _ => false
  | .calli i es, sc, e => match e with
    | .Call (.Name x _) as [] _ => decide (N[i]? = some x) && visB sc x && chkA es sc as && !as.isEmpty
    | _ => false
  | .blt f es, sc, e => match e with
    | .Call (.Name x _) as [] _ => decide (bname f = some x) && glB sc x && chkA es sc as && !as.isEmpty
    | _ => false
  | .isi a ty, sc, e => match e with
    | .Call (.Name x _) [y, .Name t _] [] _ => decide (x = "isinstance") && glB sc x && decide (t = tname ty) && glB sc t && chkE a sc y && notStar y
    | _ => false
  | .isx i c, sc, e => false
  | .comp k es tg c el own, sc, e => match e with
    | .ListComp elt [⟨t, iter, ifs, 0⟩] sc2 _ => L2.blkC N sc sc2 (ownOf N own) && chkT N k sc2 tg t && (match iterArgs sc k iter with
      | some as => chkA es sc as
      | none => false) && (idx tg).all (fun i => own.contains i) && chkE el sc2 elt && (match c, ifs with
      | .nothing, [] => true
      | .nothing, _ => false
      | c, [x] => chkE c sc2 x
      | _, _ => false)
    | _ => false
  | .anil, _, _ => false
  | .acons _ _, _, _ => false
  | .nothing, _, _ => false
def chkA : ME → Scope → List Expr → Bool
  | .anil, _, es => es.isEmpty
  | .acons a as, sc, es => match es with
    | e :: r => notStar e && chkE a sc e && chkA as sc r
    | [] => false
  | _, _, _ => false
end
end

/-! ### where one stands -/
/-- a def as it may be called, k deep -/
def spF (Y : Fix) (k f : Nat) : Sp := fun vs H Q E => ∃ ds I S μ, Wd Y I H S μ ∧ Reps Y I μ ds vs ∧ (match callF Y.T k f ds S with
  | .ok d S' => ∀ I' H' μ', Ext I H μ I' H' μ' → Wd Y I' H' S' μ' → ∀ v, Rep Y I' μ' d v → Q v H'
  | .exc c S' => ∀ I' H' μ', Ext I H μ I' H' μ' → Wd Y I' H' S' μ' → ∃ C, Y.mg (Y.xn c) = some (.ref C) ∧ E (.ref C) none H'
  | .stuck => False)
/-- the block's names, those of a block around it relabelled -/
def ScOk (sc sc' : Scope) : Prop := ∀ x q, sc.names.lookup x = some q → sc'.names.lookup x = some q ∨ (q = .free ∧ sc'.names.lookup x = some .cell)
theorem ScOk.refl (sc : Scope) : ScOk sc sc := fun _ _ h => .inl h
theorem lookup_relabelled {env : PySem.Env} : ∀ {names : List (Str × NameKind)} {x : Str} {q : NameKind}, names.lookup x = some q →
    (names.map fun (n, k) => if (k == NameKind.free && env.scope.kind == .function && env.kindOf n == some .cell) then (n, NameKind.cell) else (n, k)).lookup x = some q ∨
    (q = .free ∧ (names.map fun (n, k) => if (k == NameKind.free && env.scope.kind == .function && env.kindOf n == some .cell) then (n, NameKind.cell) else (n, k)).lookup x = some .cell)
  | [], _, _, h => by simp at h
  | (n, k) :: r, x, q, h => by
    have ih := @lookup_relabelled env r x q
    show List.lookup x ((if (k == NameKind.free && env.scope.kind == .function && env.kindOf n == some .cell) = true then (n, NameKind.cell) else (n, k)) :: _) = _ ∨ (_ ∧ List.lookup x ((if (k == NameKind.free && env.scope.kind == .function && env.kindOf n == some .cell) = true then (n, NameKind.cell) else (n, k)) :: _) = _)
    cases hx : x == n with
    | true =>
      simp only [List.lookup_cons, hx] at h
      cases h
      by_cases hc : (k == NameKind.free && env.scope.kind == .function && env.kindOf n == some .cell) = true
      · rw [if_pos hc]
        right
        simp only [Bool.and_eq_true] at hc
        exact ⟨eq_of_beq hc.1.1, by simp [List.lookup_cons, hx]⟩
      · rw [if_neg hc]
        left
        simp [List.lookup_cons, hx]
    | false =>
      simp only [List.lookup_cons, hx] at h
      by_cases hc : (k == NameKind.free && env.scope.kind == .function && env.kindOf n == some .cell) = true
      · rw [if_pos hc]; simp only [List.lookup_cons, hx]; exact ih h
      · rw [if_neg hc]; simp only [List.lookup_cons, hx]; exact ih h
theorem ScOk.relabel (sc : Scope) (env : PySem.Env) : ScOk sc (relabel sc env) := fun _ _ h => lookup_relabelled h
structure Gx (Y : Fix) (k : Nat) (N : List Str) (sc : Scope) (X : Cx) : Prop where
  hK : X.K = Y.K
  hm : X.mg = Y.mg
  hN : X.N = N
  nd : N.Nodup
  hs : ScOk sc X.env.scope
  calm : X.calm = true
  room : Room k X.A
  fn : ∀ x, sc.names.lookup x = some .cell → X.fn x = true
  free : ∀ x ∈ blts, X.mg x = none
  glo : ∀ g d, Y.T.glo g = some d → ∃ v u, X.mg (Y.gn g) = some u ∧ RelV v u ∧ ∀ I μ, Rep Y I μ d v
  defs : ∀ f fn, Y.T.fn f = some fn → ∃ a fd ps, X.mg (Y.nm f) = some (.ref a) ∧ FnOk X.prog X.w X.K X.mg X.base (L2.CX X.prog X.w) k a fd ps (spF Y k f) ∧ PySem.W.keepIn X.K (.ref a) = true ∧ Binds X.K fd ps []
def names (Y : Fix) : Names := ⟨Y.nm, Y.gn, Y.xn, fun f => (Y.T.fn f).isSome⟩
def cl (Y : Fix) (k : Nat) : Cl := ⟨callF Y.T k, Y.T.glo, fun g => (Y.T.fn g).isSome⟩
section
variable (Y : Fix) (k : Nat) (W : WX)
def tE (m : ME) : TE := fun σ H Q => ∃ I S μ ρ, Wd Y I H S μ ∧ EnvOk Y I H μ ρ σ ∧ Aft Y W σ I H μ (evE (cl Y k) m ρ S) (Gv Y Q)
def tF (m : ME) : TE := fun σ H Q => ∃ I S μ ρ, Wd Y I H S μ ∧ EnvOk Y I H μ ρ σ ∧ Aft Y W σ I H μ (evE (cl Y k) m ρ S) (Gf Y H Q)
def tV (m : ME) : TE := fun σ H Q => ∃ I S μ ρ, Wd Y I H S μ ∧ EnvOk Y I H μ ρ σ ∧ Aft Y W σ I H μ (via ρ m (evE (cl Y k) m ρ) S) fun d I' H' _ μ' => ∀ v, View Y I' H' μ' d v → Q v H'
def evT (X : Cl) (m : ME) (ρ : Env) : M Bool := do
  let x ← via ρ m (evE X m ρ)
  let x ← view x
  truth x
def tT (m : ME) : TT := fun σ H Q => ∃ I S μ ρ, Wd Y I H S μ ∧ EnvOk Y I H μ ρ σ ∧ Aft Y W σ I H μ (evT (cl Y k) m ρ S) fun b _ H' _ _ => Q b H'
def tA (m : ME) : TA := fun σ H Q => ∃ I S μ ρ, Wd Y I H S μ ∧ EnvOk Y I H μ ρ σ ∧ Aft Y W σ I H μ (evA (cl Y k) m ρ S) fun ds I' H' _ μ' => ∀ vs, Reps Y I' μ' ds vs → Q vs H'
def Views (I H : Hp) (μ : List Addr) : List D → List V → Prop
  | [], vs => vs = []
  | d :: ds, vs => ∃ v r, vs = v :: r ∧ View Y I H μ d v ∧ Views I H μ ds r
def tAV (m : ME) : TA := fun σ H Q => ∃ I S μ ρ, Wd Y I H S μ ∧ EnvOk Y I H μ ρ σ ∧ Aft Y W σ I H μ (evV (cl Y k) m ρ S) fun ds I' H' _ μ' => ∀ vs, Views Y I' H' μ' ds vs → Q vs H'
end

/-! ### small things about the text -/
theorem star_cons {e : Expr} {es : List Expr} {env : PySem.Env} (h : notStar e = true) : starEach (e :: es) env = (false, eval e env) :: starEach es env := by
  cases e <;> first | rfl | cases h
theorem star_any {env : PySem.Env} {pos : Pos} : ∀ {es : List Expr}, (∀ e ∈ es, notStar e = true) → (backTo pos (starEach es env)).any (·.1) = false
  | [], _ => rfl
  | e :: es, h => by
    rw [star_cons (h e (List.mem_cons_self))]
    show (false || (backTo pos (starEach es env)).any (·.1)) = false
    rw [star_any (es := es) fun x m => h x (List.mem_cons_of_mem _ m)] <;> rfl
theorem plain_ix {b : Expr} (h : notSlice b = true) : PlainIx b := by
  intro o i
  cases b <;> first | rfl | cases h
section
variable {Y : Fix} {k : Nat} {N : List Str} {sc : Scope} {X : Cx}
theorem vis_of {x : Str} (h : visB sc x = true) (hs : ScOk sc X.env.scope) : Vis X.env.scope x ∧ (x == ("__debug__" : Str)) = false ∧ (x == ("__classdict__" : Str)) = false := by
  unfold visB at h
  rw [Bool.and_eq_true, Bool.and_eq_true, Bool.not_eq_true', Bool.not_eq_true'] at h
  refine ⟨?_, h.1.2, h.2⟩
  unfold Vis
  split at h
  · rename_i e
    rcases hs _ _ e with e | ⟨z, _⟩
    · exact .inl e
    · cases z
  · rename_i e
    rcases hs _ _ e with e | ⟨z, _⟩
    · exact .inr (.inl e)
    · cases z
  · rename_i e
    rcases hs _ _ e with e | ⟨_, e⟩
    · exact .inr (.inr e)
    · exact .inr (.inl e)
  · exact absurd h.1.1 Bool.false_ne_true
theorem gl_of {x : Str} (h : glB sc x = true) (hs : ScOk sc X.env.scope) : Gl X x ∧ (x == ("__debug__" : Str)) = false ∧ x ≠ "__name__" := by
  unfold glB at h
  rw [Bool.and_eq_true, Bool.and_eq_true, Bool.not_eq_true', Bool.not_eq_true'] at h
  refine ⟨?_, h.1.2, fun e => ?_⟩
  · show X.env.scope.names.lookup x = some .globalImplicit
    split at h
    · rename_i e
      rcases hs _ _ e with e | ⟨z, _⟩
      · exact e
      · cases z
    · exact absurd h.1.1 Bool.false_ne_true
  · have := h.2
    rw [e] at this
    exact absurd this (by decide)
theorem loc_of {x : Str} (g : Gx Y k N sc X) (h : locB sc x = true) : L2.Loc X.env.scope x ∧ (X.fn x = true ∨ X.env.scope.names.lookup x = some .local) := by
  unfold locB at h
  unfold L2.Loc
  split at h
  · rename_i e
    rcases g.hs _ _ e with e | ⟨z, _⟩
    · exact ⟨.inl e, .inr e⟩
    · cases z
  · rename_i e
    rcases g.hs _ _ e with e' | ⟨z, _⟩
    · exact ⟨.inr e', .inl (g.fn x e)⟩
    · cases z
  · cases h
theorem blk_of {own : List (Str × Nat)} {sc2 : Scope} (g : Gx Y k N sc X) (h : L2.BlkOk N sc sc2 own) : L2.BlkOk N X.env.scope sc2 own := by
  refine ⟨h.kind, h.uniq, h.ix, fun y hy e => ?_, h.own⟩
  rcases h.free y hy e with e | e
  · rcases g.hs _ _ e with e | ⟨z, _⟩
    · exact .inl e
    · cases z
  · rcases g.hs _ _ e with e | ⟨_, e⟩
    · exact .inr e
    · exact .inl e
end
end EV

/-! EvSnd: the readings of expressions are right. -/
namespace EV
open PySem PySem.Spec PyProof.Rows L2
section
variable {Y : Fix} {k : Nat} {N : List Str} {W : WX} {σ : L2.St} {I H H0 : Hp} {S S' : Sto} {μ : List Addr}

theorem tE_of {m : ME} {X : Cx} {e : Expr} (h : PE X e (tF Y k W m)) : PE X e (tE Y k W m) := mono_PE h fun σ H Q ⟨I, S, μ, ρ, w, en, q⟩ => ⟨I, S, μ, ρ, w, en, Gf_of q⟩
/-- a value of no list -/
theorem to_tF {m : ME} {X : Cx} {e : Expr} {t : TE} (h : PE X e t) (q : ∀ σ H Q, tF Y k W m σ H Q → t σ H Q) : PE X e (tF Y k W m) := mono_PE h q

theorem bnd_ok {α β : Type} {m : M α} {f : α → M β} {S S' : Sto} {b : β} (h : (m >>= f) S = .ok b S') : ∃ a S1, m S = .ok a S1 ∧ f a S1 = .ok b S' := by
  have h' : M.bnd m f S = .ok b S' := h
  unfold M.bnd at h'
  cases e : m S with
  | ok a S1 => rw [e] at h'; exact ⟨a, S1, rfl, h'⟩
  | exc c S1 => rw [e] at h'; cases h'
  | stuck => rw [e] at h'; cases h'
theorem Aft.have {α : Type} {r : Res α} {P : α → Prop} {G : α → Hp → Hp → Sto → List Addr → Prop} (h : Aft Y W σ I H μ r G) (hp : ∀ a S', r = .ok a S' → P a) : Aft Y W σ I H μ r fun a I' H' S' μ' => P a ∧ G a I' H' S' μ' := by
  cases r with
  | ok a S' => exact fun I' H' μ' x w => ⟨hp a S' rfl, h I' H' μ' x w⟩
  | exc c S' => exact h
  | stuck => exact h
theorem cop_bl {op : COp} {x y d : D} {S S' : Sto} (h : cop op x y S = .ok d S') : ∃ b, d = .bl b := by
  unfold cop at h
  split at h
  · unfold eqD at h
    split at h
    · cases h; exact ⟨_, rfl⟩
    · cases h
  · unfold neD at h
    split at h
    · cases h; exact ⟨_, rfl⟩
    · cases h
  all_goals first
    | (cases h; exact ⟨_, rfl⟩)
    | (obtain ⟨b, S1, _, e⟩ := bnd_ok h
       cases e
       exact ⟨_, rfl⟩)
    | cases h
theorem cmp_bl {X : Cl} {op : COp} {a b : ME} {ρ : Env} {d : D} {S S' : Sto} (h : evE X (.cmp op a b) ρ S = .ok d S') : ∃ b, d = .bl b := by
  obtain ⟨_, _, _, h⟩ := bnd_ok (show (via ρ a (evE X a ρ) >>= fun x => via ρ b (evE X b ρ) >>= fun y => view x >>= fun x => view y >>= fun y => cop op x y) S = .ok d S' from h)
  obtain ⟨_, _, _, h⟩ := bnd_ok h
  obtain ⟨_, _, _, h⟩ := bnd_ok h
  obtain ⟨_, _, _, h⟩ := bnd_ok h
  exact cop_bl h
/-! ### reading a name -/
theorem s_var {X : Cx} {sc : Scope} {i : Nat} {x : Str} {pos : Pos} (g : Gx Y k N sc X) (hN : N[i]? = some x) (hv : visB sc x = true) : PE X (.Name x pos) (tE Y k W (.var i)) ∧ PE X (.Name x pos) (tV Y k W (.var i)) := by
  obtain ⟨v1, v2, v3⟩ := vis_of hv g.hs
  have p := pe_var (X := X) (pos := pos) (i := i) (x := x) (by rw [g.hN]; exact hN) v1 v2 v3
  refine ⟨mono_PE p fun σ H Q ⟨I, S, μ, ρ, w, en, q⟩ => ?_, mono_PE p fun σ H Q ⟨I, S, μ, ρ, w, en, q⟩ => ?_⟩
  · have q' : Aft Y W σ I H μ (getV ρ i S) (Gv Y Q) := q
    unfold getV at q'
    cases hs : ρ[i]? with
    | none => rw [hs] at q'; exact q'.elim
    | some s =>
      rw [hs] at q'
      cases s with
      | none => exact q'.elim
      | own _ => exact q'.elim
      | val d =>
        obtain ⟨v, e, r⟩ := en.val i d hs
        exact ⟨v, e, q'.ret w v r⟩
  · have q' : Aft Y W σ I H μ (via ρ (.var i) (evE (cl Y k) (.var i) ρ) S) (fun d I' H' _ μ' => ∀ v, View Y I' H' μ' d v → Q v H') := q
    unfold via at q'
    dsimp only at q'
    cases hs : ρ[i]? with
    | none => rw [hs] at q'; exact q'.elim
    | some s =>
      rw [hs] at q'
      cases s with
      | none => exact q'.elim
      | own ds =>
        obtain ⟨a, vs, e, e2, e3, e4, e5, r⟩ := en.own i ds hs
        exact ⟨_, e, q'.ret w _ (.inr ⟨ds, a, vs, rfl, rfl, e2, e3, e4, e5, r⟩)⟩
      | val d =>
        obtain ⟨v, e, r⟩ := en.val i d hs
        exact ⟨v, e, q'.ret w v (.inl r)⟩
theorem tV_of {m : ME} {X : Cx} {e : Expr} (hm : ∀ i, m ≠ .var i) (h : PE X e (tE Y k W m)) : PE X e (tV Y k W m) := mono_PE h fun σ H Q ⟨I, S, μ, ρ, w, en, q⟩ => by
  refine ⟨I, S, μ, ρ, w, en, ?_⟩
  have e : via ρ m (evE (cl Y k) m ρ) = evE (cl Y k) m ρ := by
    cases m <;> first | rfl | exact absurd rfl (hm _)
  rw [e] at q
  exact q.mono fun d I' H' S' μ' _ _ z v r => z v (.inl r)
/-- a value as a test -/
theorem tT_of {m : ME} {X : Cx} {e : Expr} (hK : X.K = Y.K) (h : PE X e (tV Y k W m)) (he : ∀ whole, isTrue e X.env whole = (do let v ← whole; standAt e.pos; holding [v] (truthy v))) : PT X e (tT Y k W m) :=
  mono_PT (pt_truth h he) fun σ H Q ⟨I, S, μ, ρ, w, en, q⟩ => by
    refine ⟨I, S, μ, ρ, w, en, (Aft.bind q).mono fun d I1 H1 S1 μ1 x1 w1 q1 v r => ?_⟩
    obtain ⟨d', l, q2⟩ := Aft.view w1 r (Aft.bind q1)
    obtain ⟨b, tb, q3⟩ := truth_ok w1 l q2
    exact ⟨b, by rw [hK]; exact tb, q3⟩

/-! ### constants -/
theorem s_const {m : ME} {d : D} {v : V} {X : Cx} {e : Expr} (h : PE X e (tC v)) (he : ∀ ρ, evE (cl Y k) m ρ = pure d) (r : ∀ I μ, Rep Y I μ d v) : PE X e (tE Y k W m) := mono_PE h fun σ H Q ⟨I, S, μ, ρ, w, en, q⟩ => by
  rw [he] at q
  exact q.ret w v (r I μ)

/-! ### arguments -/
theorem s_nil {X : Cx} : PA X [] (tA Y k W .anil) ∧ PA X [] (tAV Y k W .anil) :=
  ⟨mono_PA pa_nil fun σ H Q ⟨I, S, μ, ρ, w, en, q⟩ => q.ret w [] Reps.nil, mono_PA pa_nil fun σ H Q ⟨I, S, μ, ρ, w, en, q⟩ => q.ret w [] rfl⟩
theorem s_cons {X : Cx} {e : Expr} {es : List Expr} {a as : ME} (hs : notStar e = true) (h : PE X e (tE Y k W a)) (hr : PA X es (tA Y k W as)) : PA X (e :: es) (tA Y k W (.acons a as)) :=
  mono_PA (pa_cons h hr (star_cons hs)) fun σ H Q ⟨I, S, μ, ρ, w, en, q⟩ => ⟨I, S, μ, ρ, w, en, (Aft.bind q).mono fun d I1 H1 S1 μ1 x1 w1 q1 v r =>
    ⟨I1, S1, μ1, ρ, w1, en.ext x1, (Aft.bind q1).mono fun ds I2 H2 S2 μ2 x2 w2 q2 vs rs => q2.ret w2 (v :: vs) (Reps.cons (r.mono x2.sub x2.mu) rs)⟩⟩
theorem s_consV {X : Cx} {e : Expr} {es : List Expr} {a as : ME} (hs : notStar e = true) (h : PE X e (tV Y k W a)) (hr : PA X es (tAV Y k W as)) : PA X (e :: es) (tAV Y k W (.acons a as)) :=
  mono_PA (pa_cons h hr (star_cons hs)) fun σ H Q ⟨I, S, μ, ρ, w, en, q⟩ => ⟨I, S, μ, ρ, w, en, (Aft.bind q).mono fun d I1 H1 S1 μ1 x1 w1 q1 v r =>
    ⟨I1, S1, μ1, ρ, w1, en.ext x1, (Aft.bind q1).mono fun ds I2 H2 S2 μ2 x2 w2 q2 vs rs => q2.ret w2 (v :: vs) ⟨v, vs, rfl, r.ext x2, rs⟩⟩⟩

/-! ### displays -/
theorem s_tup {X : Cx} {es : List Expr} {m : ME} {pos : Pos} {x1} (h : PA X es (tA Y k W m)) : PE X (.Tuple es x1 pos) (tE Y k W (.tup m)) :=
  tE_of (mono_PE (pe_tup h) fun σ H Q ⟨I, S, μ, ρ, w, en, q⟩ => ⟨I, S, μ, ρ, w, en, (Aft.bind q).mono fun ds I1 H1 S1 μ1 x1 w1 q1 vs rs => by
    split at q1
    · rename_i hz
      have hz' : ds.length ≤ sizeLine := Nat.le_trans hz (by decide)
      exact ⟨by rw [rs.length]; exact hz', fin_tup w1 hz' rs q1⟩
    · exact q1.elim⟩)
theorem s_lst {X : Cx} {es : List Expr} {m : ME} {pos : Pos} (h : PA X es (tA Y k W m)) : PE X (.List es pos) (tF Y k W (.lst m)) :=
  mono_PE (pe_lst h) fun σ H Q ⟨I, S, μ, ρ, w, en, q⟩ => ⟨I, S, μ, ρ, w, en, (Aft.bind q).mono fun ds I1 H1 S1 μ1 x1 w1 q1 vs rs => by
    split at q1
    · rename_i hz
      have hz' : ds.length ≤ sizeLine := Nat.le_trans hz (by decide)
      exact ⟨by rw [rs.length]; exact hz', fin_lst w1 (fun _ z => x1.free z) hz' rs q1⟩
    · exact q1.elim⟩

/-! ### operators -/
theorem s_bin {X : Cx} {a b : Expr} {m n : ME} {op : BOp} {pos : Pos} (hK : X.K = Y.K) (ha : PE X a (tV Y k W m)) (hb : PE X b (tV Y k W n)) : PE X (.BinOp a (opOf op) b pos) (tF Y k W (.bin op m n)) :=
  mono_PE (pe_op (op_all op) ha hb) fun σ H Q ⟨I, S, μ, ρ, w, en, q⟩ => ⟨I, S, μ, ρ, w, en, (Aft.bind q).mono fun d I1 H1 S1 μ1 x1 w1 q1 v r =>
    ⟨I1, S1, μ1, ρ, w1, en.ext x1, (Aft.bind q1).mono fun e I2 H2 S2 μ2 x2 w2 q2 u s => by
      obtain ⟨d', l1, q3⟩ := Aft.view w2 (r.ext x2) (Aft.bind q2)
      obtain ⟨e', l2, q4⟩ := Aft.view w2 s (Aft.bind q3)
      rw [hK]
      exact bop_ok w2 (fun _ z => x1.free (x2.free z)) l1 l2 q4⟩⟩
theorem s_cmp {X : Cx} {a b : Expr} {m n : ME} {op : COp} {pos : Pos} (g : Room k X.A) (hK : X.K = Y.K) (hmk : behindInMarks (copOf op) b = false) (ha : PE X a (tV Y k W m)) (hb : PE X b (tV Y k W n)) :
    PE X (.Compare a [copOf op] [b] pos) (tE Y k W (.cmp op m n)) ∧ PT X (.Compare a [copOf op] [b] pos) (tT Y k W (.cmp op m n)) := by
  have hu : X.A.units + 65 < cLine := Nat.lt_of_le_of_lt (by omega) (show X.A.units + 200 < cLine from by have := g.un; omega)
  have red : ∀ {σ H} {Q : VK}, tF Y k W (.cmp op m n) σ H Q → tOp (rC X.K op) (tV Y k W m) (tV Y k W n) σ H Q := fun {σ H Q} ⟨I, S, μ, ρ, w, en, q⟩ => ⟨I, S, μ, ρ, w, en, (Aft.bind q).mono fun d I1 H1 S1 μ1 x1 w1 q1 v r =>
    ⟨I1, S1, μ1, ρ, w1, en.ext x1, (Aft.bind q1).mono fun e I2 H2 S2 μ2 x2 w2 q2 u s => by
      obtain ⟨d', l1, q3⟩ := Aft.view w2 (r.ext x2) (Aft.bind q2)
      obtain ⟨e', l2, q4⟩ := Aft.view w2 s (Aft.bind q3)
      rw [hK]
      exact cop_ok w2 l1 l2 q4⟩⟩
  refine ⟨tE_of (mono_PE (pe_cmpR (cop_all hu op) ha hb hmk) fun σ H Q h => red h), mono_PT (pt_cmpR (cop_all hu op) ha hb hmk) fun σ H Q ⟨I, S, μ, ρ, w, en, q⟩ => ?_⟩
  refine red ⟨I, S, μ, ρ, w, en, Gf_of (Aft.mono ((Aft.bind q).have fun d S' e => cmp_bl e) fun d I1 H1 S1 μ1 x1 w1 ⟨⟨b, e⟩, q1⟩ v r => ?_)⟩
  subst e
  have e : v = .bl b := r
  subst e
  have q3 : Aft Y W σ I1 H1 μ1 ((pure b : M Bool) S1) (fun b _ H' _ _ => Q b H') := (Aft.bind q1).ret w1
  exact ⟨b, rfl, q3.ret w1⟩
theorem s_neg {X : Cx} {a : Expr} {m : ME} {pos : Pos} (ha : PE X a (tE Y k W m)) : PE X (.UnaryOp .USub a pos) (tE Y k W (.neg m)) :=
  mono_PE (pe_un un_neg ha) fun σ H Q ⟨I, S, μ, ρ, w, en, q⟩ => ⟨I, S, μ, ρ, w, en, (Aft.bind q).mono fun d I1 H1 S1 μ1 x1 w1 q1 v r => by
    cases d with
    | int i => cases (show v = .int i from r); exact ⟨i, rfl, q1.ret w1 _ rfl⟩
    | _ => exact q1.elim⟩
theorem s_not {X : Cx} {a : Expr} {m : ME} {pos : Pos} (hK : X.K = Y.K) (ha : PE X a (tV Y k W m)) (hT : PT X a (tT Y k W m)) : PE X (.UnaryOp .Not a pos) (tE Y k W (.not m)) ∧ PT X (.UnaryOp .Not a pos) (tT Y k W (.not m)) := by
  refine ⟨mono_PE (pe_notT ha) fun σ H Q ⟨I, S, μ, ρ, w, en, q⟩ => ⟨I, S, μ, ρ, w, en, (Aft.bind q).mono fun d I1 H1 S1 μ1 x1 w1 q1 v r => ?_⟩, mono_PT (pt_not hT) fun σ H Q ⟨I, S, μ, ρ, w, en, q⟩ => ⟨I, S, μ, ρ, w, en, ?_⟩⟩
  · obtain ⟨d', l, q2⟩ := Aft.view w1 r (Aft.bind q1)
    obtain ⟨b, tb, q3⟩ := truth_ok w1 l (Aft.bind q2)
    exact ⟨b, by rw [hK]; exact tb, q3.ret w1 _ rfl⟩
  · have e : evT (cl Y k) (.not m) ρ = evT (cl Y k) m ρ >>= fun t => pure (!t) := by
      show ((via ρ m (evE (cl Y k) m ρ) >>= fun x => view x >>= fun x => truth x >>= fun t => pure (D.bl (!t))) >>= fun x => view x >>= fun x => truth x) = (via ρ m (evE (cl Y k) m ρ) >>= fun x => view x >>= fun x => truth x) >>= fun t => pure (!t)
      simp only [bind_assoc, pure_bind]
      rfl
    rw [e] at q
    exact (Aft.bind q).mono fun b I1 H1 S1 μ1 x1 w1 q1 => q1.ret w1
theorem evT_and {m n : ME} {ρ : Env} : evT (cl Y k) (.and m n) ρ = (evE (cl Y k) m ρ >>= fun x => truth x >>= fun t => if t then (evE (cl Y k) n ρ >>= fun x => view x >>= fun x => truth x) else (view x >>= fun x => truth x)) := by
  show ((evE (cl Y k) m ρ >>= fun x => truth x >>= fun t => if t then evE (cl Y k) n ρ else pure x) >>= fun x => view x >>= fun x => truth x) = _
  simp only [bind_assoc]
  congr 1; funext x; congr 1; funext t
  cases t <;> rfl
theorem evT_or {m n : ME} {ρ : Env} : evT (cl Y k) (.or m n) ρ = (evE (cl Y k) m ρ >>= fun x => truth x >>= fun t => if t then (view x >>= fun x => truth x) else (evE (cl Y k) n ρ >>= fun x => view x >>= fun x => truth x)) := by
  show ((evE (cl Y k) m ρ >>= fun x => truth x >>= fun t => if t then pure x else evE (cl Y k) n ρ) >>= fun x => view x >>= fun x => truth x) = _
  simp only [bind_assoc]
  congr 1; funext x; congr 1; funext t
  cases t <;> rfl
theorem via_eq {X : Cl} {m : ME} {ρ : Env} {S : Sto} (h : evE X m ρ S ≠ .stuck) : via ρ m (evE X m ρ) S = evE X m ρ S := by
  cases m with
  | var i =>
    have e : evE X (.var i) ρ = getV ρ i := rfl
    rw [e] at h ⊢
    unfold via getV at *
    dsimp only at *
    cases hs : ρ[i]? with
    | none => rfl
    | some s =>
      rw [hs] at h
      cases s with
      | none => rfl
      | own _ => exact absurd rfl h
      | val d => rfl
  | _ => rfl
theorem truth_pure {x : D} {S S' : Sto} {t : Bool} (h : truth x S = .ok t S') : S' = S ∧ view x = pure x ∧ truth x = pure t := by
  cases x <;> first
    | (cases h; exact ⟨rfl, rfl, rfl⟩)
    | cases h
theorem truth_exc {x : D} {S S' : Sto} {c : Nat} (h : truth x S = .exc c S') : False := by cases x <;> cases h
theorem bnd_at {α β : Type} {m : M α} {f : α → M β} {S S1 : Sto} {a : α} (h : m S = .ok a S1) : (m >>= f) S = f a S1 := by
  show M.bnd m f S = _
  unfold M.bnd
  rw [h]
theorem bnd_exc {α β : Type} {m : M α} {f : α → M β} {S S1 : Sto} {c : Nat} (h : m S = .exc c S1) : (m >>= f) S = .exc c S1 := by
  show M.bnd m f S = _
  unfold M.bnd
  rw [h]
theorem bnd_stuck {α β : Type} {m : M α} {f : α → M β} {S : Sto} (h : m S = .stuck) : (m >>= f) S = .stuck := by
  show M.bnd m f S = _
  unfold M.bnd
  rw [h]
theorem evT_ok {X : Cl} {m : ME} {ρ : Env} {S S1 : Sto} {x : D} (h : evE X m ρ S = .ok x S1) : evT X m ρ S = (view x >>= fun x => truth x) S1 := by
  have e : via ρ m (evE X m ρ) S = .ok x S1 := by rw [via_eq (by rw [h]; exact fun z => nomatch z)]; exact h
  exact bnd_at e
theorem evT_exc {X : Cl} {m : ME} {ρ : Env} {S S1 : Sto} {c : Nat} (h : evE X m ρ S = .exc c S1) : evT X m ρ S = .exc c S1 := by
  have e : via ρ m (evE X m ρ) S = .exc c S1 := by rw [via_eq (by rw [h]; exact fun z => nomatch z)]; exact h
  exact bnd_exc e
/-- the second test -/
theorem evT_snd {X : Cl} {n : ME} {ρ : Env} {S : Sto} {G : Bool → Hp → Hp → Sto → List Addr → Prop} (h : Aft Y W σ I H μ ((evE X n ρ >>= fun x => view x >>= fun x => truth x) S) G) : Aft Y W σ I H μ (evT X n ρ S) G := by
  cases e : evE X n ρ S with
  | ok x S1 => rw [evT_ok e]; rw [bnd_at e] at h; exact h
  | exc c S1 => rw [evT_exc e]; rw [bnd_exc e] at h; exact h
  | stuck => rw [bnd_stuck e] at h; exact h.elim
theorem and_T {m n : ME} {ρ : Env} {G : Bool → Hp → Hp → Sto → List Addr → Prop} (h : Aft Y W σ I H μ (evT (cl Y k) (.and m n) ρ S) G) :
    Aft Y W σ I H μ (evT (cl Y k) m ρ S) fun t I' H' S' μ' => if t = true then Aft Y W σ I' H' μ' (evT (cl Y k) n ρ S') G else G false I' H' S' μ' := by
  rw [evT_and] at h
  cases e : evE (cl Y k) m ρ S with
  | stuck => rw [bnd_stuck e] at h; exact h.elim
  | exc c S1 => rw [bnd_exc e] at h; rw [evT_exc e]; exact h
  | ok x S1 =>
    rw [bnd_at e] at h
    rw [evT_ok e]
    cases e2 : truth x S1 with
    | stuck => rw [bnd_stuck e2] at h; exact h.elim
    | exc c S2 => exact (truth_exc e2).elim
    | ok t S2 =>
      obtain ⟨rfl, v1, t1⟩ := truth_pure e2
      rw [bnd_at e2] at h
      have eT : (view x >>= fun x => truth x) S2 = .ok t S2 := by rw [v1]; exact e2
      rw [eT]
      cases t with
      | false =>
        have h2 : Aft Y W σ I H μ ((view x >>= fun x => truth x) S2) G := h
        rw [eT] at h2
        exact h2
      | true =>
        have h' : Aft Y W σ I H μ ((pure () >>= fun _ => evE (cl Y k) n ρ >>= fun x => view x >>= fun x => truth x : M Bool) S2) G := h
        intro I' H' μ' x' w'
        exact evT_snd ((Aft.bind h') I' H' μ' x' w')
theorem or_T {m n : ME} {ρ : Env} {G : Bool → Hp → Hp → Sto → List Addr → Prop} (h : Aft Y W σ I H μ (evT (cl Y k) (.or m n) ρ S) G) :
    Aft Y W σ I H μ (evT (cl Y k) m ρ S) fun t I' H' S' μ' => if t = true then G true I' H' S' μ' else Aft Y W σ I' H' μ' (evT (cl Y k) n ρ S') G := by
  rw [evT_or] at h
  cases e : evE (cl Y k) m ρ S with
  | stuck => rw [bnd_stuck e] at h; exact h.elim
  | exc c S1 => rw [bnd_exc e] at h; rw [evT_exc e]; exact h
  | ok x S1 =>
    rw [bnd_at e] at h
    rw [evT_ok e]
    cases e2 : truth x S1 with
    | stuck => rw [bnd_stuck e2] at h; exact h.elim
    | exc c S2 => exact (truth_exc e2).elim
    | ok t S2 =>
      obtain ⟨rfl, v1, t1⟩ := truth_pure e2
      rw [bnd_at e2] at h
      have eT : (view x >>= fun x => truth x) S2 = .ok t S2 := by rw [v1]; exact e2
      rw [eT]
      cases t with
      | true =>
        have h2 : Aft Y W σ I H μ ((view x >>= fun x => truth x) S2) G := h
        rw [eT] at h2
        exact h2
      | false =>
        have h' : Aft Y W σ I H μ ((pure () >>= fun _ => evE (cl Y k) n ρ >>= fun x => view x >>= fun x => truth x : M Bool) S2) G := h
        intro I' H' μ' x' w'
        exact evT_snd ((Aft.bind h') I' H' μ' x' w')
/-- and, or as values -/
theorem s_and {X : Cx} {a b : Expr} {rest : List Expr} {m n : ME} {pos : Pos} (hK : X.K = Y.K) (ha : PE X a (tE Y k W m)) (hb : PE X (.BoolOp .And (b :: rest) pos) (tE Y k W n)) : PE X (.BoolOp .And (a :: b :: rest) pos) (tE Y k W (.and m n)) :=
  mono_PE (pe_andT ha hb) fun σ H Q ⟨I, S, μ, ρ, w, en, q⟩ => ⟨I, S, μ, ρ, w, en, (Aft.bind q).mono fun d I1 H1 S1 μ1 x1 w1 q1 v r => by
    obtain ⟨t, tb, q2⟩ := truth_ok w1 (.inl r) (Aft.bind q1)
    refine ⟨t, by rw [hK]; exact tb, ?_⟩
    cases t with
    | true => exact ⟨I1, S1, μ1, ρ, w1, en.ext x1, q2⟩
    | false => exact q2.ret w1 v r⟩
theorem s_or {X : Cx} {a b : Expr} {rest : List Expr} {m n : ME} {pos : Pos} (hK : X.K = Y.K) (ha : PE X a (tE Y k W m)) (hb : PE X (.BoolOp .Or (b :: rest) pos) (tE Y k W n)) : PE X (.BoolOp .Or (a :: b :: rest) pos) (tE Y k W (.or m n)) :=
  mono_PE (pe_orT ha hb) fun σ H Q ⟨I, S, μ, ρ, w, en, q⟩ => ⟨I, S, μ, ρ, w, en, (Aft.bind q).mono fun d I1 H1 S1 μ1 x1 w1 q1 v r => by
    obtain ⟨t, tb, q2⟩ := truth_ok w1 (.inl r) (Aft.bind q1)
    refine ⟨t, by rw [hK]; exact tb, ?_⟩
    cases t with
    | false => exact ⟨I1, S1, μ1, ρ, w1, en.ext x1, q2⟩
    | true => exact q2.ret w1 v r⟩
theorem s_andT {X : Cx} {a b : Expr} {rest : List Expr} {m n : ME} {pos : Pos} (ha : PT X a (tT Y k W m)) (hb : PW X (.BoolOp .And (b :: rest) pos) (tT Y k W n)) : PW X (.BoolOp .And (a :: b :: rest) pos) (tT Y k W (.and m n)) :=
  mono_PW (pw_and ha hb) fun σ H Q ⟨I, S, μ, ρ, w, en, q⟩ => ⟨I, S, μ, ρ, w, en, (and_T q).mono fun t I1 H1 S1 μ1 x1 w1 q1 => by
    cases t with
    | true => exact ⟨I1, S1, μ1, ρ, w1, en.ext x1, q1⟩
    | false => exact q1⟩
theorem s_orT {X : Cx} {a b : Expr} {rest : List Expr} {m n : ME} {pos : Pos} (ha : PT X a (tT Y k W m)) (hb : PW X (.BoolOp .Or (b :: rest) pos) (tT Y k W n)) : PW X (.BoolOp .Or (a :: b :: rest) pos) (tT Y k W (.or m n)) :=
  mono_PW (pw_or ha hb) fun σ H Q ⟨I, S, μ, ρ, w, en, q⟩ => ⟨I, S, μ, ρ, w, en, (or_T q).mono fun t I1 H1 S1 μ1 x1 w1 q1 => by
    cases t with
    | false => exact ⟨I1, S1, μ1, ρ, w1, en.ext x1, q1⟩
    | true => exact q1⟩
theorem chain_bl {X : Cl} {op op' : COp} {a b c : ME} {ρ : Env} {d : D} {S S' : Sto} (h : evE X (.chain op op' a b c) ρ S = .ok d S') : ∃ b, d = .bl b := by
  obtain ⟨_, _, _, h⟩ := bnd_ok (show (evE X a ρ >>= fun x => evE X b ρ >>= fun y => cop op x y >>= fun r => match r with
    | .bl true => evE X c ρ >>= fun z => cop op' y z
    | .bl false => pure (.bl false)
    | _ => M.stuck) S = .ok d S' from h)
  obtain ⟨_, _, _, h⟩ := bnd_ok h
  obtain ⟨r, _, _, h⟩ := bnd_ok h
  split at h
  · obtain ⟨_, _, _, h⟩ := bnd_ok h
    exact cop_bl h
  · cases h; exact ⟨_, rfl⟩
  · cases h
/-- a chain of two comparisons -/
theorem s_chain {X : Cx} {a b c : Expr} {m n o : ME} {op op' : COp} {pos : Pos} (g : Room k X.A) (hK : X.K = Y.K) (hmk : behindInMarks (copOf op') c = false) (ha : PE X a (tE Y k W m)) (hb : PE X b (tE Y k W n)) (hc : PE X c (tE Y k W o)) :
    PE X (.Compare a [copOf op, copOf op'] [b, c] pos) (tE Y k W (.chain op op' m n o)) ∧ PT X (.Compare a [copOf op, copOf op'] [b, c] pos) (tT Y k W (.chain op op' m n o)) := by
  have hu : X.A.units + 65 < cLine := Nat.lt_of_le_of_lt (by omega) (show X.A.units + 200 < cLine from by have := g.un; omega)
  have hm : lastMarks [copOf op, copOf op'] [b, c] = false := hmk
  have red : ∀ {σ H} {Q : VK}, tE Y k W (.chain op op' m n o) σ H Q → tChain (rC X.K op) (rC X.K op') (tE Y k W m) (tE Y k W n) (tE Y k W o) σ H Q := fun {σ H Q} ⟨I, S, μ, ρ, w, en, q⟩ => ⟨I, S, μ, ρ, w, en, (Aft.bind q).mono fun d I1 H1 S1 μ1 x1 w1 q1 v r =>
    ⟨I1, S1, μ1, ρ, w1, en.ext x1, (Aft.bind q1).mono fun e I2 H2 S2 μ2 x2 w2 q2 u s => by
      rw [hK]
      have q3 : Aft Y W σ I2 H2 μ2 (cop op d e S2) (Gf Y H2 fun z H3 => ∃ k', z = .bl k' ∧ (if k' = true then tE Y k W o σ H3 fun w' H4 => rC Y.K op' u w' H4 Q else Q (.bl false) H3)) := by
        refine Gf_of (Aft.mono ((Aft.bind q2).have fun d S' e => cop_bl e) fun z I3 H3 S3 μ3 x3 w3 ⟨⟨t, e⟩, q4⟩ v' r' => ?_)
        subst e
        have e : v' = .bl t := r'
        subst e
        refine ⟨t, rfl, ?_⟩
        cases t with
        | false => exact q4.ret w3 _ rfl
        | true =>
          refine ⟨I3, S3, μ3, ρ, w3, (en.ext (x1.trans x2)).ext x3, (Aft.bind q4).mono fun f I4 H4 S4 μ4 x4 w4 q5 w' r4 => ?_⟩
          exact cop_ok w4 (.inl (s.mono (x3.trans x4).sub (x3.trans x4).mu)) (.inl r4) (Gf_of q5)
      exact cop_ok w2 (.inl (r.mono x2.sub x2.mu)) (.inl s) q3⟩⟩
  refine ⟨mono_PE (pe_chain (cop_all hu op) (cop_all hu op') ha hb hc hm) fun σ H Q h => red h, mono_PT (pt_chain (cop_all hu op) (cop_all hu op') ha hb hc hm) fun σ H Q ⟨I, S, μ, ρ, w, en, q⟩ => ?_⟩
  refine red ⟨I, S, μ, ρ, w, en, Aft.mono ((Aft.bind q).have fun d S' e => chain_bl e) fun d I1 H1 S1 μ1 x1 w1 ⟨⟨b, e⟩, q1⟩ v r => ?_⟩
  subst e
  have e : v = .bl b := r
  subst e
  have q3 : Aft Y W σ I1 H1 μ1 ((pure b : M Bool) S1) (fun b _ H' _ _ => Q b H') := (Aft.bind q1).ret w1
  exact ⟨b, rfl, q3.ret w1⟩
theorem s_ite {X : Cx} {c a b : Expr} {l m n : ME} {pos : Pos} (hc : PT X c (tT Y k W l)) (ha : PE X a (tE Y k W m)) (hb : PE X b (tE Y k W n)) : PE X (.IfExp c a b pos) (tE Y k W (.ite l m n)) :=
  mono_PE (pe_ifExp hc ha hb) fun σ H Q ⟨I, S, μ, ρ, w, en, q⟩ => by
    have e : evE (cl Y k) (.ite l m n) ρ = (evT (cl Y k) l ρ >>= fun t => if t then evE (cl Y k) m ρ else evE (cl Y k) n ρ) := by
      show (via ρ l (evE (cl Y k) l ρ) >>= fun x => view x >>= fun x => truth x >>= fun t => if t then evE (cl Y k) m ρ else evE (cl Y k) n ρ) = (via ρ l (evE (cl Y k) l ρ) >>= fun x => view x >>= fun x => truth x) >>= _
      simp only [bind_assoc]
    rw [e] at q
    refine ⟨I, S, μ, ρ, w, en, (Aft.bind q).mono fun t I1 H1 S1 μ1 x1 w1 q1 => ?_⟩
    cases t with
    | true => exact ⟨I1, S1, μ1, ρ, w1, en.ext x1, q1⟩
    | false => exact ⟨I1, S1, μ1, ρ, w1, en.ext x1, q1⟩
/-! ### places -/
theorem s_ix {X : Cx} {a b : Expr} {m n : ME} {pos : Pos} (hK : X.K = Y.K) (ha : PE X a (tV Y k W m)) (hb : PE X b (tE Y k W n)) (hs : notSlice b = true) : PE X (.Subscript a b pos) (tE Y k W (.ix m n)) :=
  mono_PE (pe_ix ix_seq ha hb (plain_ix hs)) fun σ H Q ⟨I, S, μ, ρ, w, en, q⟩ => ⟨I, S, μ, ρ, w, en, (Aft.bind q).mono fun d I1 H1 S1 μ1 x1 w1 q1 v r =>
    ⟨I1, S1, μ1, ρ, w1, en.ext x1, (Aft.bind q1).mono fun e I2 H2 S2 μ2 x2 w2 q2 u s => by
      obtain ⟨d', l1, q3⟩ := Aft.view w2 (r.ext x2) (Aft.bind q2)
      rw [hK]
      exact index_ok w2 l1 (.inl s) q3⟩⟩
/-! ### slices -/
/-- an end of a slice -/
def evP (X : Cl) (m : ME) (ρ : Env) : M (Option Int) := endM m (evE X m ρ)
theorem po_ok {X : Cx} {m : ME} {e : Option Expr} (h : match m, e with
    | .nothing, none => True
    | .nothing, _ => False
    | m, some e => PE X e (tE Y k W m)
    | _, none => False) : PO X e (fun σ H Q => ∃ I S μ ρ, Wd Y I H S μ ∧ EnvOk Y I H μ ρ σ ∧ Aft Y W σ I H μ (evP (cl Y k) m ρ S) fun o _ H' _ _ => Q o H') := by
  by_cases hm : m = .nothing
  · subst hm
    cases e with
    | some e => exact h.elim
    | none =>
      refine ⟨fun pins s σ H Q I' ⟨I, S, μ, ρ, w, en, q⟩ => ?_⟩
      exact po_none.run pins s σ H Q I' (q.ret w)
  · have ev : ∀ ρ, evP (cl Y k) m ρ = (evE (cl Y k) m ρ >>= fun d => asEnd d) := fun ρ => by
      cases m <;> first | rfl | exact absurd rfl hm
    cases e with
    | none => cases m <;> first | exact absurd rfl hm | exact h.elim
    | some e =>
      have p : PE X e (tE Y k W m) := by cases m <;> first | exact absurd rfl hm | exact h
      refine ⟨fun pins s σ H Q I' ⟨I, S, μ, ρ, w, en, q⟩ => ?_⟩
      rw [ev] at q
      refine (po_some p).run pins s σ H Q I' ⟨I, S, μ, ρ, w, en, (Aft.bind q).mono fun d I1 H1 S1 μ1 x1 w1 q1 v r => ?_⟩
      cases d with
      | int i =>
        have e : v = .int i := r
        subst e
        refine ⟨i, rfl, ?_⟩
        have q2 : Aft Y W σ I1 H1 μ1 ((if -mx ≤ i ∧ i ≤ mx then pure (some i) else M.stuck : M (Option Int)) S1) (fun o _ H' _ _ => Q o H') := q1
        split at q2
        · exact q2.ret w1
        · exact q2.elim
      | _ => exact q1.elim
theorem s_sl {X : Cx} {a : Expr} {l h : Option Expr} {m lo hi : ME} {pos p2 : Pos} (hK : X.K = Y.K) (ha : PE X a (tV Y k W m))
    (hl : PO X l (fun σ H Q => ∃ I S μ ρ, Wd Y I H S μ ∧ EnvOk Y I H μ ρ σ ∧ Aft Y W σ I H μ (evP (cl Y k) lo ρ S) fun o _ H' _ _ => Q o H'))
    (hh : PO X h (fun σ H Q => ∃ I S μ ρ, Wd Y I H S μ ∧ EnvOk Y I H μ ρ σ ∧ Aft Y W σ I H μ (evP (cl Y k) hi ρ S) fun o _ H' _ _ => Q o H')) :
    PE X (.Subscript a (.Slice l h none p2) pos) (tF Y k W (.sl m lo hi)) :=
  mono_PE (pe_slice (sl_list.or (sl_tupA.or sl_str)) ha hl hh) fun σ H Q ⟨I, S, μ, ρ, w, en, q⟩ => by
    have e : evE (cl Y k) (.sl m lo hi) ρ = (via ρ m (evE (cl Y k) m ρ) >>= fun x => evP (cl Y k) lo ρ >>= fun l => evP (cl Y k) hi ρ >>= fun h => view x >>= fun x => slice x l h) := by
      rfl
    rw [e] at q
    refine ⟨I, S, μ, ρ, w, en, (Aft.bind q).mono fun d I1 H1 S1 μ1 x1 w1 q1 v r => ⟨I1, S1, μ1, ρ, w1, en.ext x1, (Aft.bind q1).mono fun o I2 H2 S2 μ2 x2 w2 q2 => ⟨I2, S2, μ2, ρ, w2, (en.ext x1).ext x2, (Aft.bind q2).mono fun o2 I3 H3 S3 μ3 x3 w3 q3 => ?_⟩⟩⟩
    obtain ⟨d', l1, q4⟩ := Aft.view w3 (r.ext (x2.trans x3)) (Aft.bind q3)
    rw [hK]
    exact slice_ok w3 (fun _ z => x1.free (x2.free (x3.free z))) l1 q4

/-! ### calls of defs -/
theorem call_def {X : Cx} {f : Nat} {x : Str} {es : List Expr} {m : ME} {p pos : Pos} {N : List Str} {sc : Scope} (g : Gx Y k N sc X) (tk : Takes X W) (hx : Y.nm f = x) (hg : glB sc x = true) (hf : (Y.T.fn f).isSome = true) (hs : ∀ e ∈ es, notStar e = true) (h : PA X es (tA Y k W m)) (he : es = [] ↔ m = .anil) :
    PE X (.Call (.Name x p) es [] pos) (tE Y k W (.call f m)) := by
  subst hx
  obtain ⟨g1, g2, g3⟩ := gl_of hg g.hs
  · obtain ⟨fn, ef⟩ := Option.isSome_iff_exists.mp hf
    obtain ⟨a, fd, ps, e1, F, kp, b⟩ := g.defs f fn ef
    cases es with
    | nil =>
      have em : m = .anil := he.mp rfl
      subst em
      refine mono_PE (pe_call0 (E := E0) F g.room g1 e1 kp b .nil passL g2) fun σ H Q ⟨I, S, μ, ρ, w, en, q⟩ => ?_
      have q' : Aft Y W σ I H μ (M.calm (callF Y.T k f []) S) (Gv Y Q) := q
      refine ⟨[], I, S, μ, w, Reps.nil, ?_⟩
      unfold M.calm at q'
      cases ec : callF Y.T k f [] S with
      | ok d S' => rw [ec] at q'; exact q'
      | exc c S' => rw [ec] at q'; exact q'.elim
      | stuck => rw [ec] at q'; exact q'.elim
    | cons e es =>
      have hn : m ≠ .anil := fun z => by
        have := he.mpr z
        cases this
      refine mono_PE (pe_callS F g.room g1 e1 kp b (passAt tk) h g2 (star_cons (hs e List.mem_cons_self)) (star_any fun x m => hs x (List.mem_cons_of_mem _ m))) fun σ H Q ⟨I, S, μ, ρ, w, en, q⟩ => ?_
      refine ⟨I, S, μ, ρ, w, en, (Aft.bind q).mono fun ds I1 H1 S1 μ1 x1 w1 q1 vs rs => ⟨ds, I1, S1, μ1, w1, rs, ?_⟩⟩
      have q2 : Aft Y W σ I1 H1 μ1 (callF Y.T k f ds S1) (Gv Y Q) := by
        cases m <;> first | exact absurd rfl hn | exact q1
      cases ec : callF Y.T k f ds S1 with
      | ok d S' => rw [ec] at q2; exact q2
      | exc c S' => rw [ec] at q2; exact q2
      | stuck => rw [ec] at q2; exact q2.elim
/-- a def that a name holds -/
theorem pe_callI {X : Cx} {i : Nat} {x : Str} {e : Expr} {es : List Expr} {t : TA} {p pos : Pos} {CX : CXT} {E : L2.St → XK} (hr : Room k X.A) (hN : X.N[i]? = some x) (hv : Vis X.env.scope x) (hx : ∀ σ, PassesAt CX X σ (E σ)) (ha : PA X (e :: es) t)
    (hdb : (x == ("__debug__" : Str)) = false) (hcd : (x == ("__classdict__" : Str)) = false)
    (he : starEach (e :: es) X.env = (false, eval e X.env) :: starEach es X.env) (hpl : (backTo pos (starEach es X.env)).any (·.1) = false) :
    PE X (.Call (.Name x p) (e :: es) [] pos) (fun σ H Q => ∃ f fd ps sp, FnOk X.prog X.w X.K X.mg X.base CX k f fd ps sp ∧ PySem.W.keepIn X.K (.ref f) = true ∧ Binds X.K fd ps [] ∧ σ[i]? = some (some (.ref f)) ∧ t σ H fun vs H1 => sp vs H1 Q (E σ)) := by
  refine ⟨fun pins s σ H Q I h => ?_⟩
  obtain ⟨f, fd, ps, sp, F, hk, hb, hs, ht⟩ := h
  refine wpAny_Call_Name_kw (thn ((pe_var (pos := p) hN hv hdb hcd).run pins s σ H (fun v H1 => v = .ref f ∧ H1 = H) I ⟨.ref f, hs, rfl, rfl⟩) fun u s1 ⟨v, H1, I1, r1, q1⟩ => ?_)
  obtain ⟨rfl, rfl⟩ := q1
  cases r1
  refine PySem.W.callWith_K (h₀ := X.base) I.ok.mod.kin hk (thn (ha.run pos pins s1 σ _ _ I1 ht) fun us s2 ⟨vs, H2, I2, r, q⟩ => ⟨I2.kIn, ?_⟩) he hpl
  exact run_fnS F hr hb (hx σ) I2 r q
theorem call_slot {X : Cx} {i : Nat} {x : Str} {e : Expr} {es : List Expr} {m : ME} {p pos : Pos} {N : List Str} {sc : Scope} (g : Gx Y k N sc X) (tk : Takes X W) (hN : N[i]? = some x) (hv : visB sc x = true) (hs : ∀ y ∈ e :: es, notStar y = true) (h : PA X (e :: es) (tA Y k W m)) (hn : m ≠ .anil) :
    PE X (.Call (.Name x p) (e :: es) [] pos) (tE Y k W (.calli i m)) := by
  obtain ⟨v1, v2, v3⟩ := vis_of hv g.hs
  refine mono_PE (pe_callI g.room (by rw [g.hN]; exact hN) v1 (passAt tk) h v2 v3 (star_cons (hs e List.mem_cons_self)) (star_any fun x m => hs x (List.mem_cons_of_mem _ m))) fun σ H Q ⟨I, S, μ, ρ, w, en, q⟩ => ?_
  have q' : Aft Y W σ I H μ ((getV ρ i >>= fun d => match d with
    | .fn f => evA (cl Y k) m ρ >>= fun ds => callM m (callF Y.T k f ds)
    | _ => M.stuck) S) (Gv Y Q) := q
  cases hsl : ρ[i]? with
  | none =>
    have z : getV ρ i = M.stuck := by unfold getV; rw [hsl]
    rw [z] at q'
    exact q'.elim
  | some s =>
    cases s with
    | none =>
      have z : getV ρ i = M.stuck := by unfold getV; rw [hsl]
      rw [z] at q'
      exact q'.elim
    | own _ =>
      have z : getV ρ i = M.stuck := by unfold getV; rw [hsl]
      rw [z] at q'
      exact q'.elim
    | val d =>
      have z : getV ρ i = pure d := by unfold getV; rw [hsl]
      rw [z] at q'
      obtain ⟨v, ev, r⟩ := en.val i d hsl
      cases d with
      | fn f =>
        obtain ⟨a, rfl, hm, hf⟩ := r
        obtain ⟨fn, ef⟩ := Option.isSome_iff_exists.mp hf
        obtain ⟨a', fd, ps, e1, F, kp, b⟩ := g.defs f fn ef
        have ea : a' = a := by
          rw [g.hm, hm] at e1
          exact (Value.ref.inj (Option.some.inj e1)).symm
        subst ea
        have q'' : Aft Y W σ I H μ ((evA (cl Y k) m ρ >>= fun ds => callM m (callF Y.T k f ds)) S) (Gv Y Q) := q'
        refine ⟨_, fd, ps, _, F, kp, b, ev, I, S, μ, ρ, w, en, (Aft.bind q'').mono fun ds I1 H1 S1 μ1 x1 w1 q1 vs rs => ⟨ds, I1, S1, μ1, w1, rs, ?_⟩⟩
        have q2 : Aft Y W σ I1 H1 μ1 (callF Y.T k f ds S1) (Gv Y Q) := by
          cases m <;> first | exact absurd rfl hn | exact q1
        cases ec : callF Y.T k f ds S1 with
        | ok d S' => rw [ec] at q2; exact q2
        | exc c S' => rw [ec] at q2; exact q2
        | stuck => rw [ec] at q2; exact q2.elim
      | _ => exact q'.elim

/-! ### the sum of a tuple -/
theorem sum_intTupG {prog : Program} {w : World} {A : Around} {E : Value → Shared → Prop} {s : Shared} {l : Addr} {xs : Array (Int × Tok)} {Q : Value → Shared → Prop} (hh : A.handled = none) (hl : s.heap.IsTuple l (intItems xs))
    (h : ∀ h' tk t', (∀ b o, s.heap.get? b = some o → h'.get? b = some o) → Q (.int (preSum (numAt xs) xs.size) t') { s with heap := h', toks := tk }) :
    wpAny (model prog w) A (call (.builtin "sum") [.ref l]) Q E s := by
  have hlt : l < s.heap.objs.size := by obtain ⟨_, e, _⟩ := hl; exact Heap.lt_size e
  refine call_sum_walkG (wpAny_pyIter_tuple hl ?_)
  refine ⟨s.heap.objs.size, _, _, _, _, _, numAt xs, rfl, Walks.tuple (A := A.in1) hh s.heap.objs.size l (Nat.ne_of_lt hlt) (intItems xs), ⟨⟨_, Heap.get?_push_size _ rfl, rfl, rfl⟩, hl.at fun o e => Heap.get?_push_of_some _ e⟩, fun b hb => ?_, (fun _ _ => intItems_at), fun h' tk t' hk => ?_⟩
  · show b < (s.heap.push _).objs.size
    rw [Heap.size_push]
    rcases List.mem_cons.mp hb with rfl | hb
    · exact Nat.lt_succ_self _
    · have e : b = l := by simpa using hb
      rw [e]; exact Nat.lt_succ_of_lt hlt
  · have q := h h' tk t' (fun b o e => hk b o (fun z => by
      have e2 : b = s.heap.objs.size := by simpa using z
      rw [e2] at e
      exact absurd (Heap.lt_size e) (Nat.lt_irrefl _)) (Heap.get?_push_of_some _ e))
    simpa [intItems] using q
theorem sum_rawT {prog : Program} {w : World} {A : Around} {E : Value → Shared → Prop} {s : Shared} {l : Addr} {its : List Value} {ns : List Int} {Q : Value → Shared → Prop} (hh : A.handled = none) (hl : s.heap.IsTuple l its.toArray) (hi : IntsAre its ns)
    (h : ∀ h' tk t', (∀ b o, s.heap.get? b = some o → h'.get? b = some o) → Q (.int ns.sum t') { s with heap := h', toks := tk }) : wpAny (model prog w) A (call (.builtin "sum") [.ref l]) Q E s := by
  obtain ⟨xs, e⟩ := hi.allInts.items
  have hn : numsOf (intItems xs).toList = ns := by rw [← e]; exact hi.numsOf
  rw [nums_intItems] at hn
  rw [e] at hl
  refine sum_intTupG hh hl fun h' tk t' hk => ?_
  have := h h' tk t' hk
  rw [preSum_eq, List.take_of_length_le (by simp), hn]; exact this
def rSumT (K : PySem.W.Frag) : List V → Hp → VK → Prop := fun vs H Q => ∃ (a : Addr) (ns : List Int), vs = [V.ref a] ∧ SqT K H a (ns.map V.int) ∧ Q (.int ns.sum) H
theorem cr_sumT {X : Cx} (hc : X.calm = true) : CallR X (.builtin "sum") (rSumT X.K) := by
  intro pins s σ H vs us Q I r h
  obtain ⟨a, ns, rfl, hs, q⟩ := h
  obtain ⟨its, rv, hl, _⟩ := I.tuple hs
  rw [Vals.ref1 r]
  exact sum_rawT (I.ok.hd hc) (show s.heap.IsTuple a its.toArray from hl) rv.ints fun h' tk t' hk => ⟨.int _, H, I.kept hk, ⟨_, rfl⟩, q⟩
/-! ### built-ins -/
def Looks (Y : Fix) (I H : Hp) (μ : List Addr) : List D → List V → Prop
  | [], vs => vs = []
  | d :: ds, vs => ∃ v r, vs = v :: r ∧ Look Y I H μ d v ∧ Looks Y I H μ ds r
theorem Aft.viewAll (w : Wd Y I H S μ) : ∀ {ds : List D} {vs : List V} {G : List D → Hp → Hp → Sto → List Addr → Prop}, Views Y I H μ ds vs → Aft Y W σ I H μ (EV.viewAll ds S) G → ∃ ds', Looks Y I H μ ds' vs ∧ G ds' I H S μ
  | [], _, _, hv, h => ⟨[], hv, h.ret w⟩
  | d :: ds, _, _, ⟨v, r, e, h1, h2⟩, h => by
    obtain ⟨d', l, q⟩ := Aft.view w h1 (Aft.bind h)
    obtain ⟨ds', ls, q2⟩ := Aft.viewAll w h2 (Aft.bind q)
    exact ⟨d' :: ds', ⟨v, r, e, l, ls⟩, q2.ret w⟩
theorem looks1 {d : D} {vs : List V} (h : Looks Y I H μ [d] vs) : ∃ v, vs = [v] ∧ Look Y I H μ d v := by
  obtain ⟨v, r, e, l, q⟩ := h
  have : r = [] := q
  subst this
  exact ⟨v, e, l⟩
theorem looks2 {d e : D} {vs : List V} (h : Looks Y I H μ [d, e] vs) : ∃ v u, vs = [v, u] ∧ Look Y I H μ d v ∧ Look Y I H μ e u := by
  obtain ⟨v, r, e1, l, q⟩ := h
  obtain ⟨u, e2, l2⟩ := looks1 q
  subst e2
  exact ⟨v, u, e1, l, l2⟩
/-- the reading of a built-in -/
def rBf (K : PySem.W.Frag) : Bf → List V → Hp → VK → Prop
  | .len => fun xs H Q => (∃ p ys, xs = [.ref p] ∧ (SqL K H p ys ∨ SqT K H p ys) ∧ Q (.int ys.length) H) ∨ ∃ z, xs = [.str z] ∧ z.length ≤ sizeLine ∧ Q (.int z.length) H
  | .abs => fun xs H Q => ∃ i, xs = [.int i] ∧ Q (.int (if i < 0 then -i else i)) H
  | .int => fun xs H Q => (∃ i, xs = [.int i] ∧ Q (.int i) H) ∨ ∃ k, xs = [.bl k] ∧ Q (.int (if k then 1 else 0)) H
  | .sum => fun xs H Q => rSum K xs H Q ∨ rSumT K xs H Q
  | .tuple => fun xs H Q => ∃ p ys, xs = [.ref p] ∧ ((SqL K H p ys ∧ ∀ l, H l = none → Q (.ref l) (upd H l (.tup ys))) ∨ (SqT K H p ys ∧ Q (.ref p) H))
  | .list => fun xs H Q => ∃ p ys, xs = [.ref p] ∧ (SqL K H p ys ∨ SqT K H p ys) ∧ ∀ l, H l = none → Q (.ref l) (upd H l (.lst ys))
  | .min2 => fun xs H Q => ∃ i j, xs = [.int i, .int j] ∧ Q (.int (if j < i then j else i)) H
  | _ => fun _ _ _ => False
theorem bfn_ok {f : Bf} {ds : List D} {vs : List V} {Q : VK} (hf : (bname f).isSome = true) (w : Wd Y I H S μ) (e0 : ∀ a, H a = none → H0 a = none) (ls : Looks Y I H μ ds vs) (h : Aft Y W σ I H μ (bfn f ds S) (Gf Y H0 Q)) : rBf Y.K f vs H Q := by
  unfold bfn at h
  split at h
  · obtain ⟨v, rfl, l⟩ := looks1 ls
    obtain ⟨a, us, rfl, h1, z1, r1⟩ := l.lst w.sub
    exact .inl ⟨a, us, rfl, .inl (SqL.of h1), by rw [r1.length]; exact fin_int w h⟩
  · obtain ⟨v, rfl, l⟩ := looks1 ls
    obtain ⟨a, us, rfl, h1, z1, r1⟩ := l.tup w.sub
    exact .inl ⟨a, us, rfl, .inr (SqT.of h1), by rw [r1.length]; exact fin_int w h⟩
  · obtain ⟨v, rfl, l⟩ := looks1 ls
    obtain ⟨rfl, z⟩ := look_str l
    exact .inr ⟨_, rfl, z, fin_int w h⟩
  · obtain ⟨v, rfl, l⟩ := looks1 ls
    obtain ⟨a, rfl, hs⟩ := l.rep (fun _ z => nomatch z)
    exact .inl ⟨a, _, rfl, .inl (Same.seq w.sub hs), by rw [List.length_map]; exact fin_int w h⟩
  · obtain ⟨v, rfl, l⟩ := looks1 ls
    cases look_int l
    exact ⟨_, rfl, fin_int w h⟩
  · obtain ⟨v, rfl, l⟩ := looks1 ls
    cases look_int l
    exact .inl ⟨_, rfl, fin_int w h⟩
  · obtain ⟨v, rfl, l⟩ := looks1 ls
    cases look_bl l
    exact .inr ⟨_, rfl, fin_int w h⟩
  · obtain ⟨v, rfl, l⟩ := looks1 ls
    obtain ⟨a, us, rfl, h1, z1, r1⟩ := l.lst w.sub
    cases ei : EV.intsD _ with
    | none => rw [ei] at h; exact h.elim
    | some is =>
      rw [ei] at h
      have e2 := Reps.intsD ei r1
      subst e2
      exact .inl ⟨a, is, rfl, SqL.of h1, fin_int w h⟩
  · obtain ⟨v, rfl, l⟩ := looks1 ls
    obtain ⟨a, us, rfl, h1, z1, r1⟩ := l.tup w.sub
    cases ei : EV.intsD _ with
    | none => rw [ei] at h; exact h.elim
    | some is =>
      rw [ei] at h
      have e2 := Reps.intsD ei r1
      subst e2
      exact .inr ⟨a, is, rfl, SqT.of h1, fin_int w h⟩
  · obtain ⟨v, rfl, l⟩ := looks1 ls
    obtain ⟨a, us, rfl, h1, z1, r1⟩ := l.lst w.sub
    exact ⟨a, us, rfl, .inl ⟨SqL.of h1, fin_tup w z1 r1 h⟩⟩
  · rename_i ds
    obtain ⟨v, rfl, l⟩ := looks1 ls
    obtain ⟨a, us, rfl, h1, z1, r1⟩ := l.tup w.sub
    exact ⟨a, us, rfl, .inr ⟨SqT.of h1, fin_rep (d := .tup ds) (v := .ref a) w (fun _ z => nomatch z) (l.rep fun _ z => nomatch z) h⟩⟩
  · obtain ⟨v, rfl, l⟩ := looks1 ls
    obtain ⟨a, us, rfl, h1, z1, r1⟩ := l.lst w.sub
    exact ⟨a, us, rfl, .inl (SqL.of h1), fin_lst w e0 z1 r1 h⟩
  · obtain ⟨v, rfl, l⟩ := looks1 ls
    obtain ⟨a, us, rfl, h1, z1, r1⟩ := l.tup w.sub
    exact ⟨a, us, rfl, .inr (SqT.of h1), fin_lst w e0 z1 r1 h⟩
  · cases hf
  · cases hf
  · obtain ⟨v, u, rfl, l, l2⟩ := looks2 ls
    cases look_int l; cases look_int l2
    exact ⟨_, _, rfl, fin_int w h⟩
  · cases hf
  · cases hf
  · exact h.elim
theorem s_blt {X : Cx} {f : Bf} {x : Str} {e : Expr} {es : List Expr} {m : ME} {p pos : Pos} {N : List Str} {sc : Scope} (g : Gx Y k N sc X) (hx : bname f = some x) (hg : glB sc x = true) (hs : ∀ y ∈ e :: es, notStar y = true) (h : PA X (e :: es) (tAV Y k W m)) :
    PE X (.Call (.Name x p) (e :: es) [] pos) (tF Y k W (.blt f m)) := by
  obtain ⟨g1, g2, g3⟩ := gl_of hg g.hs
  have s1 := star_cons (env := X.env) (es := es) (hs e List.mem_cons_self)
  have s2 := star_any (env := X.env) (pos := pos) (es := es) fun x m => hs x (List.mem_cons_of_mem _ m)
  have red : ∀ {σ H Q}, tF Y k W (.blt f m) σ H Q → tCB (rBf X.K f) (tAV Y k W m) σ H Q := fun {σ H Q} ⟨I, S, μ, ρ, w, en, q⟩ => ⟨I, S, μ, ρ, w, en, (Aft.bind q).mono fun ds I1 H1 S1 μ1 x1 w1 q1 vs rs => by
    obtain ⟨ds', ls, q2⟩ := Aft.viewAll w1 rs (Aft.bind q1)
    rw [g.hK]
    exact bfn_ok (by rw [hx]; rfl) w1 (fun _ z => x1.free z) ls q2⟩
  refine mono_PE ?_ fun σ H Q => red
  have fr := g.free
  cases f with
  | len => cases hx; exact pe_callB (call_len_seq.or call_len_str) g1 (fr _ (by decide)) PySem.boot_len h g3 g2 s1 s2
  | abs => cases hx; exact pe_callB call_abs g1 (fr _ (by decide)) (by decide +kernel) h g3 g2 s1 s2
  | int => cases hx; exact pe_callTy call_int1 g1 (fr _ (by decide)) (by decide +kernel) h g3 g2 s1 s2
  | sum => cases hx; exact pe_callB ((cr_sum g.calm).or (cr_sumT g.calm)) g1 (fr _ (by decide)) (by decide +kernel) h g3 g2 s1 s2
  | tuple => cases hx; exact pe_callTy call_tuple_of g1 (fr _ (by decide)) (by decide +kernel) h g3 g2 s1 s2
  | list => cases hx; exact pe_callTy call_list_of g1 (fr _ (by decide)) (by decide +kernel) h g3 g2 s1 s2
  | min2 => cases hx; exact pe_callB (call_min2 g.calm) g1 (fr _ (by decide)) (by decide +kernel) h g3 g2 s1 s2
  | _ => cases hx
/-! ### isinstance -/
theorem isTy_ok {d : D} {v : V} {ty : Ty} {G : Bool → Hp → Hp → Sto → List Addr → Prop} (w : Wd Y I H S μ) (r : Rep Y I μ d v) (h : Aft Y W σ I H μ (isTy ty d S) G) : ∃ t b n, TyX Y.K H v (.type t) ∧ (match ty with | .int => n = "int" | .bool => n = "bool" | .tuple => n = "tuple" | .str => n = "str") ∧ kitB t n = some b ∧ G b I H S μ := by
  cases d with
  | non => cases (show v = .non from r); refine ⟨"NoneType", ?_⟩; cases ty <;> exact ⟨false, _, .base .non, rfl, by decide +kernel, h.ret w⟩
  | bl b => cases (show v = .bl b from r); refine ⟨"bool", ?_⟩; cases ty <;> first | exact ⟨false, _, .base (.bl b), rfl, by decide +kernel, h.ret w⟩ | exact ⟨true, _, .base (.bl b), rfl, by decide +kernel, h.ret w⟩
  | int b => cases (show v = .int b from r); refine ⟨"int", ?_⟩; cases ty <;> first | exact ⟨false, _, .base (.int b), rfl, by decide +kernel, h.ret w⟩ | exact ⟨true, _, .base (.int b), rfl, by decide +kernel, h.ret w⟩
  | str b => cases r.1; refine ⟨"str", ?_⟩; cases ty <;> first | exact ⟨false, _, .base (.str b), rfl, by decide +kernel, h.ret w⟩ | exact ⟨true, _, .base (.str b), rfl, by decide +kernel, h.ret w⟩
  | tup ds => obtain ⟨a, vs, rfl, h1, _⟩ := r; refine ⟨"tuple", ?_⟩; cases ty <;> first | exact ⟨false, _, .base (.tup (w.sub _ _ h1)), rfl, by decide +kernel, h.ret w⟩ | exact ⟨true, _, .base (.tup (w.sub _ _ h1)), rfl, by decide +kernel, h.ret w⟩
  | lst ds => obtain ⟨a, vs, rfl, h1, _⟩ := r; refine ⟨"list", ?_⟩; cases ty <;> first | exact ⟨false, _, .base (.lst (w.sub _ _ h1)), rfl, by decide +kernel, h.ret w⟩ | exact ⟨true, _, .base (.lst (w.sub _ _ h1)), rfl, by decide +kernel, h.ret w⟩
  | cell _ => cases ty <;> exact h.elim
  | fn _ => cases ty <;> exact h.elim
  | exc _ => cases ty <;> exact h.elim
  | obj _ => cases ty <;> exact h.elim
  | scr _ => cases ty <;> exact h.elim
end
end EV

/-! EvZip: zip of two sequences, each a list or a tuple. -/
namespace EV
open PySem PySem.Spec PyProof.Rows L2
/-- an iterator over a tuple (true), a list (false) -/
def SI (b : Bool) (h : Heap) (it l : Addr) (i : Nat) : Prop := match b with
  | true => h.IsTupleIter it l i
  | false => h.IsListIter it l i
def SQ (b : Bool) (h : Heap) (l : Addr) (xs : Array Value) : Prop := match b with
  | true => h.IsTuple l xs
  | false => h.IsList l xs
def siName : Bool → String
  | true => "tuple_iterator"
  | false => "list_iterator"
abbrev siObj (b : Bool) (l : Addr) : Obj := { cls := .type (siName b), data := .fields #[.ref l, .int 0 0] }
section
variable {b c : Bool} {h h' : Heap} {it l x : Addr} {i : Nat} {xs : Array Value}
theorem SI.but (p : SI b h it l i) (e : Heap.ExtBut x h h') (n : it ≠ x) : SI b h' it l i := by
  cases b
  · exact (show h.IsListIter it l i from p).extBut e n
  · exact (show h.IsTupleIter it l i from p).extBut e n
theorem SI.to (p : SI b h it l i) (e : ∀ o, h.get? it = some o → h'.get? it = some o) : SI b h' it l i := by
  cases b
  · exact (show h.IsListIter it l i from p).at e
  · exact (show h.IsTupleIter it l i from p).at e
theorem SQ.but (p : SQ b h l xs) (e : Heap.ExtBut x h h') (n : l ≠ x) : SQ b h' l xs := by
  cases b
  · exact (show h.IsList l xs from p).extBut e n
  · exact (show h.IsTuple l xs from p).extBut e n
theorem SQ.to (p : SQ b h l xs) (e : ∀ o, h.get? l = some o → h'.get? l = some o) : SQ b h' l xs := by
  cases b
  · exact (show h.IsList l xs from p).at e
  · exact (show h.IsTuple l xs from p).at e
theorem SI.obj (p : SI b h it l i) : ∃ o, h.get? it = some o ∧ ∀ v, o.data ≠ .cell v := by
  cases b <;> (obtain ⟨o, e, _, d⟩ := p; exact ⟨o, e, fun v z => by rw [d] at z; cases z⟩)
theorem SI.lt (p : SI b h it l i) : it < h.objs.size := by
  obtain ⟨o, e, _⟩ := p.obj
  exact Heap.lt_size e
theorem SQ.lt (p : SQ b h l xs) : l < h.objs.size := by
  cases b <;> (obtain ⟨o, e, _⟩ := p; exact Heap.lt_size e)
theorem SI.new (e : h.get? it = some (siObj b l)) : SI b h it l 0 := by
  cases b <;> exact ⟨_, e, rfl, rfl⟩
end
section
variable {prog : Program} {w : World} {A : Around} {E : Value → Shared → Prop} {s : Shared} {b c : Bool}
theorem draw_item {it l : Addr} {i : Nat} {xs : Array Value} {x : Value} {Q : Value → Shared → Prop} (p : SI b s.heap it l i) (q : SQ b s.heap l xs) (hx : xs[i]? = some x)
    (k : ∀ g, SI b g it l (i + 1) → Heap.SameBut it s.heap g → Q x { s with heap := g }) : wpAny (model prog w) A (Builtin.SmallTypes.nextOf (.ref it)) Q E s := by
  cases b
  · exact wpAny_nextOf_list_item (show s.heap.IsListIter it l i from p) (show s.heap.IsList l xs from q) hx k
  · exact RZ.nextOf_tuple_item (show s.heap.IsTupleIter it l i from p) (show s.heap.IsTuple l xs from q) hx k
theorem draw_end {it l : Addr} {i : Nat} {xs : Array Value} {Q : Value → Shared → Prop} (hh : A.handled = none) (p : SI b s.heap it l i) (q : SQ b s.heap l xs) (hx : xs[i]? = none)
    (k : ∀ g e, Heap.ExtBut it s.heap g → (∃ o, g.get? e = some o ∧ o.cls = .type "StopIteration") → E (.ref e) { s with heap := g }) : wpAny (model prog w) A (Builtin.SmallTypes.nextOf (.ref it)) Q E s := by
  cases b
  · exact wpAny_nextOf_list_end hh (show s.heap.IsListIter it l i from p) (show s.heap.IsList l xs from q) hx k
  · exact RZ.nextOf_tuple_end hh (show s.heap.IsTupleIter it l i from p) (show s.heap.IsTuple l xs from q) hx k
/-- the next pair -/
theorem zipM_item {z ti tq u1 u2 m1 m2 : Addr} {n1 n2 : Nat} {xs ys : Array Value} {x y v1 v2 : Value} {Q : Value → Shared → Prop} (D : ZipApart z ti tq u1 u2 m1 m2)
    (pz : IsZip s.heap z ti tq .none) (pi : IsPair s.heap ti (.ref u1) (.ref u2)) (po : IsPair s.heap tq v1 v2)
    (p1 : SI b s.heap u1 m1 n1) (p2 : SI c s.heap u2 m2 n2) (q1 : SQ b s.heap m1 xs) (q2 : SQ c s.heap m2 ys) (ex : xs[n1]? = some x) (ey : ys[n2]? = some y)
    (k : ∀ g, IsZip g z ti tq (rawInt s.heap.objs.size) → IsPair g tq x y → SI b g u1 m1 (n1 + 1) → SI c g u2 m2 (n2 + 1) → IsPair g s.heap.objs.size x y → g.objs.size = s.heap.objs.size + 1 →
      (∀ a o, a ≠ z → a ≠ tq → a ≠ u1 → a ≠ u2 → s.heap.get? a = some o → g.get? a = some o) → Q (.ref s.heap.objs.size) { s with heap := g }) :
    wpAny (model prog w) A (Builtin.«zip.__next__» ⟨[.ref z], []⟩) (fun fin s' => ∃ v, fin = .done (.ret v) ∧ Q v s') E s := by
  show wpAny _ _ (field (.ref z) 2 >>= _) _ _ _
  refine wpAny_bind (wpAny_field pz rfl (x := .bool false) rfl ?_)
  show wpAny _ _ (field (.ref z) 3 >>= _) _ _ _
  refine wpAny_bind (wpAny_field pz rfl (x := .ref ti) rfl ?_)
  refine wpAny_bind (wpAny_seqItems pi rfl ?_)
  show wpAny _ _ (Builtin.SmallTypes.ownedTupleIsFree (.ref z) >>= _) _ _ _
  refine wpAny_bind ?_
  unfold Builtin.SmallTypes.ownedTupleIsFree
  refine wpAny_bind (wpAny_field pz rfl (x := .none) rfl (wpAny_pure ?_))
  simp only [if_true]
  refine wpAny_bind (wpAny_rule (wpAny_bind (wpAny_field pz rfl (x := .ref tq) rfl (wpAny_bind (wpAny_setField_rec pz (by simp) fun g1 z1 d1 => ?_)))))
  have z1 : IsZip g1 z ti tq .ellipsis := z1
  refine wpAny_bind ?_
  simp only [List.zipIdx_cons, List.zipIdx_nil, List.forIn_cons, List.forIn_nil]
  -- the first draw
  refine wpAny_bind (wpAny_bind (wpAny_onRaise ?_))
  show wpAny _ _ (Builtin.SmallTypes.nextOf (.ref u1) >>= _) _ _ _
  refine wpAny_bind (draw_item (p1.but d1.extBut D.i1z) (q1.but d1.extBut D.l1z) ex fun g2 r2 d2 => wpAny_pure ?_)
  have o2 : IsPair g2 tq v1 v2 := d2.extBut _ _ D.TOi1 (d1.extBut _ _ D.TOz po)
  refine wpAny_bind (wpAny_seqItems o2 rfl (wpAny_bind (wpAny_updateSeq_pair o2 fun g3 o3 d3 => ?_)))
  have o3 : IsPair g3 tq x v2 := o3
  refine wpAny_bind (wpAny_letGo (wpAny_pure ?_))
  -- the second draw
  refine wpAny_bind (wpAny_bind (wpAny_onRaise ?_))
  show wpAny _ _ (Builtin.SmallTypes.nextOf (.ref u2) >>= _) _ _ _
  refine wpAny_bind (draw_item (((p2.but d1.extBut D.i2z).but d2.extBut D.i12.symm).but d3.extBut D.TOi2.symm) (((q2.but d1.extBut D.l2z).but d2.extBut D.l2i1).but d3.extBut D.l2TO) ey fun g4 r4 d4 => wpAny_pure ?_)
  have o4 : IsPair g4 tq x v2 := d4.extBut _ _ D.TOi2 o3
  refine wpAny_bind (wpAny_seqItems o4 rfl (wpAny_bind (wpAny_updateSeq_pair o4 fun g5 o5 d5 => ?_)))
  have o5 : IsPair g5 tq x y := o5
  refine wpAny_bind (wpAny_letGo (wpAny_pure (wpAny_pure ?_)))
  -- the new pair
  refine wpAny_bind (wpAny_seqItems o5 rfl (wpAny_bind (wpAny_newTuple ?_)))
  have size5 : g5.objs.size = s.heap.objs.size := by rw [d5.1, d4.1, d3.1, d2.1, d1.1]
  have z5 : IsZip g5 z ti tq .ellipsis := d5.extBut _ _ D.TOz.symm (d4.extBut _ _ D.i2z.symm (d3.extBut _ _ D.TOz.symm (d2.extBut _ _ D.i1z.symm z1)))
  have keep5 : ∀ a o, a ≠ z → a ≠ tq → a ≠ u1 → a ≠ u2 → s.heap.get? a = some o → g5.get? a = some o := fun a o a1 a2 a3 a4 e =>
    d5.extBut _ _ a2 (d4.extBut _ _ a4 (d3.extBut _ _ a2 (d2.extBut _ _ a3 (d1.extBut _ _ a1 e))))
  have r15 : SI b g5 u1 m1 (n1 + 1) := ((r2.but d3.extBut D.TOi1.symm).but d4.extBut D.i12).but d5.extBut D.TOi1.symm
  have r25 : SI c g5 u2 m2 (n2 + 1) := r4.but d5.extBut D.TOi2.symm
  have ltz : z < g5.objs.size := Heap.lt_size z5
  show wpAny _ _ (Builtin.SmallTypes.ownedTupleHandOut (.ref z) (.ref g5.objs.size) >>= _) _ _ _
  refine wpAny_bind ?_
  unfold Builtin.SmallTypes.ownedTupleHandOut
  have z6 : IsZip (g5.push { cls := .type "tuple", data := .seq #[x, y] }) z ti tq .ellipsis := Heap.get?_push_of_some _ z5
  refine wpAny_bind (wpAny_setField_rec z6 (by simp) fun g7 z7 d7 => ?_)
  have z7 : IsZip g7 z ti tq (rawInt g5.objs.size) := z7
  refine wpAny_setField_rec z7 (by simp) fun g8 z8 d8 => ?_
  have z8 : IsZip g8 z ti tq (rawInt g5.objs.size) := z8
  have up : ∀ a o, a ≠ z → g5.get? a = some o → g8.get? a = some o := fun a o a1 e => d8.extBut _ _ a1 (d7.extBut _ _ a1 (Heap.get?_push_of_some _ e))
  have t8 : IsPair g8 g5.objs.size x y := d8.extBut _ _ (Nat.ne_of_gt ltz) (d7.extBut _ _ (Nat.ne_of_gt ltz) (Heap.get?_push_size _ rfl))
  have size8 : g8.objs.size = g5.objs.size + 1 := by rw [d8.1, d7.1, Heap.size_push]
  rw [size5] at z8 t8 size8
  refine wpAny_pure ⟨_, rfl, ?_⟩
  show Q (.ref g5.objs.size) _
  rw [size5]
  exact k g8 z8 (up _ _ D.TOz o5) (r15.to fun o e => up _ o D.i1z e) (r25.to fun o e => up _ o D.i2z e) t8 size8 fun a o a1 a2 a3 a4 e => up a o a1 (keep5 a o a1 a2 a3 a4 e)
/-- no pair is left -/
theorem zipM_end {z ti tq u1 u2 m1 m2 : Addr} {n1 n2 : Nat} {xs ys : Array Value} {v1 v2 : Value} {Q : Fin → Shared → Prop} (hh : A.handled = none) (D : ZipApart z ti tq u1 u2 m1 m2)
    (pz : IsZip s.heap z ti tq .none) (pi : IsPair s.heap ti (.ref u1) (.ref u2)) (po : IsPair s.heap tq v1 v2)
    (p1 : SI b s.heap u1 m1 n1) (p2 : SI c s.heap u2 m2 n2) (q1 : SQ b s.heap m1 xs) (q2 : SQ c s.heap m2 ys) (no : xs[n1]? = none ∨ ys[n2]? = none)
    (k : ∀ g e, (∀ a o, a ≠ z → a ≠ tq → a ≠ u1 → a ≠ u2 → s.heap.get? a = some o → g.get? a = some o) → (∃ o, g.get? e = some o ∧ o.cls = .type "StopIteration") → E (.ref e) { s with heap := g }) :
    wpAny (model prog w) A (Builtin.«zip.__next__» ⟨[.ref z], []⟩) Q E s := by
  show wpAny _ _ (field (.ref z) 2 >>= _) _ _ _
  refine wpAny_bind (wpAny_field pz rfl (x := .bool false) rfl ?_)
  show wpAny _ _ (field (.ref z) 3 >>= _) _ _ _
  refine wpAny_bind (wpAny_field pz rfl (x := .ref ti) rfl ?_)
  refine wpAny_bind (wpAny_seqItems pi rfl ?_)
  show wpAny _ _ (Builtin.SmallTypes.ownedTupleIsFree (.ref z) >>= _) _ _ _
  refine wpAny_bind ?_
  unfold Builtin.SmallTypes.ownedTupleIsFree
  refine wpAny_bind (wpAny_field pz rfl (x := .none) rfl (wpAny_pure ?_))
  simp only [if_true]
  refine wpAny_bind (wpAny_rule (wpAny_bind (wpAny_field pz rfl (x := .ref tq) rfl (wpAny_bind (wpAny_setField_rec pz (by simp) fun g1 z1 d1 => ?_)))))
  have z1 : IsZip g1 z ti tq .ellipsis := z1
  refine wpAny_bind ?_
  simp only [List.zipIdx_cons, List.zipIdx_nil, List.forIn_cons, List.forIn_nil]
  refine wpAny_bind (wpAny_bind (wpAny_onRaise ?_))
  show wpAny _ _ (Builtin.SmallTypes.nextOf (.ref u1) >>= _) _ _ _
  cases ex : xs[n1]? with
  | none =>
    refine wpAny_bind (draw_end hh (p1.but d1.extBut D.i1z) (q1.but d1.extBut D.l1z) ex fun g2 e d2 ⟨oe, he, ce⟩ => ?_)
    have z2 : IsZip g2 z ti tq .ellipsis := d2 _ _ D.i1z.symm z1
    have ne : e ≠ z := fun q => by
      subst q
      rw [z2] at he
      cases he
      simp at ce
    exact wpAny_setField_rec z2 (by simp) fun g3 _ d3 => k g3 e (fun a o a1 _ a3 _ h => d3.extBut _ _ a1 (d2 _ _ a3 (d1.extBut _ _ a1 h))) ⟨oe, d3.extBut _ _ ne he, ce⟩
  | some x =>
    have ey : ys[n2]? = none := by
      rcases no with h | h
      · rw [ex] at h; cases h
      · exact h
    refine wpAny_bind (draw_item (p1.but d1.extBut D.i1z) (q1.but d1.extBut D.l1z) ex fun g2 r2 d2 => wpAny_pure ?_)
    have o2 : IsPair g2 tq v1 v2 := d2.extBut _ _ D.TOi1 (d1.extBut _ _ D.TOz po)
    refine wpAny_bind (wpAny_seqItems o2 rfl (wpAny_bind (wpAny_updateSeq_pair o2 fun g3 o3 d3 => ?_)))
    refine wpAny_bind (wpAny_letGo (wpAny_pure (wpAny_bind (wpAny_bind (wpAny_onRaise ?_)))))
    show wpAny _ _ (Builtin.SmallTypes.nextOf (.ref u2) >>= _) _ _ _
    refine wpAny_bind (draw_end hh (((p2.but d1.extBut D.i2z).but d2.extBut D.i12.symm).but d3.extBut D.TOi2.symm) (((q2.but d1.extBut D.l2z).but d2.extBut D.l2i1).but d3.extBut D.l2TO) ey fun g4 e d4 ⟨oe, he, ce⟩ => ?_)
    have z4 : IsZip g4 z ti tq .ellipsis := d4 _ _ D.i2z.symm (d3.extBut _ _ D.TOz.symm (d2.extBut _ _ D.i1z.symm z1))
    have ne : e ≠ z := fun q => by
      subst q
      rw [z4] at he
      cases he
      simp at ce
    exact wpAny_setField_rec z4 (by simp) fun g5 _ d5 => k g5 e (fun a o a1 a2 a3 a4 h => d5.extBut _ _ a1 (d4 _ _ a4 (d3.extBut _ _ a2 (d2.extBut _ _ a3 (d1.extBut _ _ a1 h))))) ⟨oe, d5.extBut _ _ ne he, ce⟩
theorem pyNext_zipM {z ti tq u1 u2 m1 m2 : Addr} {n1 n2 : Nat} {xs ys : Array Value} {x y v1 v2 : Value} {Q : Option Value → Shared → Prop} (D : ZipApart z ti tq u1 u2 m1 m2)
    (pz : IsZip s.heap z ti tq .none) (pi : IsPair s.heap ti (.ref u1) (.ref u2)) (po : IsPair s.heap tq v1 v2)
    (p1 : SI b s.heap u1 m1 n1) (p2 : SI c s.heap u2 m2 n2) (q1 : SQ b s.heap m1 xs) (q2 : SQ c s.heap m2 ys) (ex : xs[n1]? = some x) (ey : ys[n2]? = some y)
    (k : ∀ g, IsZip g z ti tq (rawInt s.heap.objs.size) → IsPair g tq x y → SI b g u1 m1 (n1 + 1) → SI c g u2 m2 (n2 + 1) → IsPair g s.heap.objs.size x y → g.objs.size = s.heap.objs.size + 1 →
      (∀ a o, a ≠ z → a ≠ tq → a ≠ u1 → a ≠ u2 → s.heap.get? a = some o → g.get? a = some o) → Q (some (.ref s.heap.objs.size)) { s with heap := g }) :
    wpAny (model prog w) A (pyNext (.ref z)) Q E s := by
  have ty : s.TypeIs (.ref z) "zip" := ⟨_, pz, rfl⟩
  unfold pyNext
  refine wpAny_bind (wpAny_attempt (wpAny_callSpecial?_slot (name := Str.ofString "__next__") ty F.slot_zip_next (wpAny_call_entry F.slot_zip_next ty F.entry_zip_next ?_ (F.args_zip_next_1 _))))
  exact zipM_item D pz pi po p1 p2 q1 q2 ex ey fun g a1 a2 a3 a4 a5 a6 a7 => wpAny_pure (k g a1 a2 a3 a4 a5 a6 a7)
theorem pyNext_zipM_end {z ti tq u1 u2 m1 m2 : Addr} {n1 n2 : Nat} {xs ys : Array Value} {v1 v2 : Value} {Q : Option Value → Shared → Prop} (hh : A.handled = none) (D : ZipApart z ti tq u1 u2 m1 m2)
    (pz : IsZip s.heap z ti tq .none) (pi : IsPair s.heap ti (.ref u1) (.ref u2)) (po : IsPair s.heap tq v1 v2)
    (p1 : SI b s.heap u1 m1 n1) (p2 : SI c s.heap u2 m2 n2) (q1 : SQ b s.heap m1 xs) (q2 : SQ c s.heap m2 ys) (no : xs[n1]? = none ∨ ys[n2]? = none)
    (k : ∀ g, (∀ a o, a ≠ z → a ≠ tq → a ≠ u1 → a ≠ u2 → s.heap.get? a = some o → g.get? a = some o) → Q none { s with heap := g }) : wpAny (model prog w) A (pyNext (.ref z)) Q E s := by
  have ty : s.TypeIs (.ref z) "zip" := ⟨_, pz, rfl⟩
  unfold pyNext
  refine wpAny_bind (wpAny_attempt (wpAny_callSpecial?_slot (name := Str.ofString "__next__") ty F.slot_zip_next (wpAny_call_entry F.slot_zip_next ty F.entry_zip_next ?_ (F.args_zip_next_1 _))))
  refine zipM_end hh D pz pi po p1 p2 q1 q2 no fun g e hk ⟨o, ho, hc⟩ => ?_
  exact wpAny_bind (wpAny_isInstance (T := "StopIteration") (b := true) ⟨o, ho, hc⟩ isSubtype_stop (wpAny_pure (k _ hk)))
/-- zip(l1, l2): what is made -/
theorem iter_of {l : Addr} {xs : Array Value} {Q : Value → Shared → Prop} (q : SQ b s.heap l xs) (k : Q (.ref s.heap.objs.size) { s with heap := s.heap.push (siObj b l) }) : wpAny (model prog w) A (pyIter (.ref l)) Q E s := by
  cases b
  · exact wpAny_pyIter_list (show s.heap.IsList l xs from q) k
  · exact wpAny_pyIter_tuple (show s.heap.IsTuple l xs from q) k
end
abbrev zm1 (b : Bool) (h : Heap) (l : Addr) : Heap := h.push (siObj b l)
abbrev zm2 (b c : Bool) (h : Heap) (l m : Addr) : Heap := (zm1 b h l).push (siObj c m)
abbrev zm3 (b c : Bool) (h : Heap) (l m : Addr) : Heap := (zm2 b c h l m).push { cls := .type "tuple", data := .seq #[.ref h.objs.size, .ref (zm1 b h l).objs.size] }
abbrev zm4 (b c : Bool) (h : Heap) (l m : Addr) : Heap := (zm3 b c h l m).push { cls := .type "tuple", data := .seq #[.none, .none] }
abbrev zm5 (b c : Bool) (h : Heap) (l m : Addr) : Heap := (zm4 b c h l m).push { cls := .type "zip", data := .fields #[.none, .bool false, .bool false, .ref (zm2 b c h l m).objs.size, .ref (zm3 b c h l m).objs.size] }
theorem SQ.push {b : Bool} {h : Heap} {l : Addr} {xs : Array Value} (q : SQ b h l xs) (o : Obj) : SQ b (h.push o) l xs := q.to fun _ e => Heap.get?_push_of_some _ e
theorem zip_made (b c : Bool) (l m : Addr) (xs ys : Array Value) : Meets (Builtin.«zip.__new__» ⟨[.type "zip", .ref l, .ref m], []⟩) (fun _ R s => SQ b s.heap l xs ∧ SQ c s.heap m ys ∧
      R (.ok (.ret (.ref (zm4 b c s.heap l m).objs.size))) { s with heap := zm5 b c s.heap l m }) :=
  .of_wp fun prog w A R s h => by
    obtain ⟨hp, g, d, tk, os⟩ := s
    obtain ⟨hl, hm, h⟩ := h
    have hsub := sub_zip
    have a1 : SQ b (Shared.heap ⟨hp, g, d, tk, os⟩) l xs := hl
    have a2 : SQ c (Shared.heap ⟨hp.push (siObj b l), g, d, tk, os⟩) m ys := SQ.push hm _
    wp_walk using iter_of a1, iter_of a2
    exact ⟨_, rfl, h⟩
theorem call_zipM {prog : Program} {w : World} {A : Around} {E : Value → Shared → Prop} {s : Shared} {b c : Bool} {l m : Addr} {xs ys : Array Value} {Q : Value → Shared → Prop} (q1 : SQ b s.heap l xs) (q2 : SQ c s.heap m ys)
    (k : ∀ g, IsZip g (s.heap.objs.size + 4) (s.heap.objs.size + 2) (s.heap.objs.size + 3) .none → IsPair g (s.heap.objs.size + 2) (.ref s.heap.objs.size) (.ref (s.heap.objs.size + 1)) → IsPair g (s.heap.objs.size + 3) .none .none →
      SI b g s.heap.objs.size l 0 → SI c g (s.heap.objs.size + 1) m 0 → (∀ a o, s.heap.get? a = some o → g.get? a = some o) → Q (.ref (s.heap.objs.size + 4)) { s with heap := g }) :
    wpAny (model prog w) A (call (.type "zip") [.ref l, .ref m]) Q E s := by
  refine callType_new F.called_zip (by decide) (F.typeCall_zip_2 _ _) (F.newCall_zip_2 _ _) (fun obj => F.args_object_init_3 obj _ _) F.entry_zip_new (zip_made b c l m xs ys) ⟨q1, q2, ?_⟩
  have e1 : (zm1 b s.heap l).objs.size = s.heap.objs.size + 1 := Heap.size_push ..
  have e2 : (zm2 b c s.heap l m).objs.size = s.heap.objs.size + 2 := by rw [Heap.size_push, e1]
  have e3 : (zm3 b c s.heap l m).objs.size = s.heap.objs.size + 3 := by rw [Heap.size_push, e2]
  have e4 : (zm4 b c s.heap l m).objs.size = s.heap.objs.size + 4 := by rw [Heap.size_push, e3]
  have up : ∀ {a : Addr} {o : Obj} {h : Heap} (u : Obj), h.get? a = some o → (h.push u).get? a = some o := fun u e => Heap.get?_push_of_some _ e
  have f5 : (zm5 b c s.heap l m).get? (zm4 b c s.heap l m).objs.size = some _ := Heap.get?_push_size _ rfl
  have f4 : (zm5 b c s.heap l m).get? (zm3 b c s.heap l m).objs.size = some _ := up _ (Heap.get?_push_size _ rfl)
  have f3 : (zm5 b c s.heap l m).get? (zm2 b c s.heap l m).objs.size = some _ := up _ (up _ (Heap.get?_push_size _ rfl))
  have f2 : (zm5 b c s.heap l m).get? (zm1 b s.heap l).objs.size = some _ := up _ (up _ (up _ (Heap.get?_push_size _ rfl)))
  have f1 : (zm5 b c s.heap l m).get? s.heap.objs.size = some _ := up _ (up _ (up _ (up _ (Heap.get?_push_size _ rfl))))
  show _ ∧ _
  rw [e2, e3, e4] at f5
  rw [e1, e2] at f3
  rw [e3] at f4
  rw [e1] at f2
  rw [e4]
  exact ⟨⟨_, f5, rfl⟩, k _ f5 f3 f4 (SI.new f1) (SI.new f2) fun a o x => up _ (up _ (up _ (up _ (up _ x))))⟩
end EV

/-! EvZip2: zip as what a loop walks. -/
namespace EV
open PySem PySem.Spec PyProof.Rows L2
def SqB (b : Bool) (K : PySem.W.Frag) (H : Hp) (a : Addr) (xs : List V) : Prop := match b with
  | true => SqT K H a xs
  | false => SqL K H a xs
section
variable {X : Cx} {pins : List (Addr × Obj)} {σ : L2.St} {H : Hp} {s : Shared} {b c : Bool} {a a2 : Addr} {xs ys : List V}
theorem sqB_at (I : Inv X pins σ H s) (h : SqB b X.K H a xs) : ∃ its : List Value, Vals xs its ∧ SQ b s.heap a its.toArray := by
  cases b
  · obtain ⟨its, r, p, _⟩ := I.list (show SqL X.K H a xs from h)
    exact ⟨its, r, p.isList⟩
  · obtain ⟨its, r, p, _⟩ := I.tuple (show SqT X.K H a xs from h)
    exact ⟨its, r, p⟩
theorem sqB_inj (I : Inv X pins σ H s) (h : SqB b X.K H a xs) (h' : SqB b X.K H a ys) : xs = ys := by
  cases b
  · exact I.list_inj h h'
  · exact I.tuple_inj h h'
end
/-- two sequences as they stand at each turn, the items in new pairs -/
def ItM (b c : Bool) (K : PySem.W.Frag) (a a2 : Addr) : L2.It :=
  ⟨fun i H => ∃ (xs ys : List V) (x y : V), SqB b K H a xs ∧ SqB c K H a2 ys ∧ xs[i]? = some x ∧ ys[i]? = some y,
    fun i H v H' => ∃ t x y, v = .ref t ∧ H t = none ∧ H' = upd H t (.tup [x, y]) ∧ (∀ xs, SqB b K H a xs → xs[i]? = some x) ∧ ∀ ys, SqB c K H a2 ys → ys[i]? = some y,
    fun i H => ∃ xs ys : List V, SqB b K H a xs ∧ SqB c K H a2 ys ∧ (xs.length ≤ i ∨ ys.length ≤ i)⟩
theorem five {z t1 t2 u1 u2 q : Addr} (h : q ∈ [z, t1, t2, u1, u2]) : q = z ∨ q = t1 ∨ q = t2 ∨ q = u1 ∨ q = u2 := by simpa using h
theorem turnM {P : Program} {w : World} {K : PySem.W.Frag} {elts : List Expr} {kk : Nat} {tpos : Pos} {b c : Bool} {a a2 z t1 t2 u1 u2 : Addr} (D : ZipApart z t1 t2 u1 u2 a a2) :
    Turn P w K (.Tuple elts kk tpos) (ItM b c K a a2) [z, t1, t2, u1, u2] z (fun i h => IsZip h z t1 t2 .none ∧ IsPair h t1 (.ref u1) (.ref u2) ∧ (∃ x y, IsPair h t2 x y) ∧ SI b h u1 a i ∧ SI c h u2 a2 i) where
  mem := by simp
  obj := fun i h ⟨p1, p2, ⟨x, y, p3⟩, p4, p5⟩ q hq => by
    rcases five hq with e | e | e | e | e
    · subst e; exact ⟨_, p1, fun v r => nomatch r⟩
    · subst e; exact ⟨_, p2, fun v r => nomatch r⟩
    · subst e; exact ⟨_, p3, fun v r => nomatch r⟩
    · subst e; exact p4.obj
    · subst e; exact p5.obj
  keep := fun i h h' ⟨p1, p2, ⟨x, y, p3⟩, p4, p5⟩ k =>
    ⟨k z (by simp) _ p1, k t1 (by simp) _ p2, ⟨x, y, k t2 (by simp) _ p3⟩, p4.to fun o q => k u1 (by simp) o q, p5.to fun o q => k u2 (by simp) o q⟩
  item := by
    intro X hP hw hK hc i pins s σ H E I hf ⟨p1, p2, ⟨x0, y0, p3⟩, p4, p5⟩ ⟨xs, ys, x, y, hx, hy, ex, ey⟩
    subst hP hw hK
    obtain ⟨its, rv, q1⟩ := sqB_at I hx
    obtain ⟨jts, rw', q2⟩ := sqB_at I hy
    obtain ⟨u, hu, ru⟩ := rv.get ex
    obtain ⟨v, hv, rv2⟩ := rw'.get ey
    have zl : z < s.heap.objs.size := Heap.lt_size p1
    refine pyNext_zipM D p1 p2 p3 p4 p5 q1 q2 (x := u) (y := v) (by simpa using hu) (by simpa using hv) fun g g1 g2 g3 g4 g5 g6 gk => ?_
    refine ⟨_, rfl, wpAny_letOwnedTupleGo_zip (s := { s with heap := g }) g1 fun g' z' sb => ?_⟩
    have gT : g'.get? s.heap.objs.size = some { cls := .type "tuple", data := .seq #[u, v] } := (sb.2 _ (Nat.ne_of_gt zl)).trans g5
    have new : ObjOk X.prog X.w (upd H s.heap.objs.size (.tup [x, y])) g' s.heap.objs.size (.tup [x, y]) := ⟨by show 2 ≤ sizeLine; decide, [u, v], .cons ru (.cons rv2 .nil), ⟨_, gT, rfl, _, rfl⟩⟩
    have kept : ∀ q o, q ∉ [z, t1, t2, u1, u2] → s.heap.get? q = some o → g'.get? q = some o := fun q o hq e =>
      (sb.2 q fun r => hq (by simp [r])).trans (gk q o (fun r => hq (by simp [r])) (fun r => hq (by simp [r])) (fun r => hq (by simp [r])) (fun r => hq (by simp [r])) e)
    have J : Inv X pins σ (upd H s.heap.objs.size (.tup [x, y])) { s with heap := g' } := I.turnedNew (t' := s.toks) (ch := [z, t1, t2, u1, u2]) kept hf (Nat.le_refl _) new
    refine ⟨.ref s.heap.objs.size, _, J, rfl, ⟨_, x, y, rfl, I.hok.fresh (Nat.le_refl _), rfl, fun l hl => by rw [sqB_inj I hl hx]; exact ex, fun l hl => by rw [sqB_inj I hl hy]; exact ey⟩, ⟨z', ?_, ⟨u, v, ?_⟩, ?_, ?_⟩, fun q hq => ?_⟩
    · exact (sb.2 _ D.TIz).trans (gk _ _ D.TIz D.TITO D.TIi1 D.TIi2 p2)
    · exact (sb.2 _ D.TOz).trans g2
    · exact g3.to fun o q => (sb.2 _ D.i1z).trans q
    · exact g4.to fun o q => (sb.2 _ D.i2z).trans q
    · have hlt : q < s.heap.objs.size := by
        rcases five hq with e | e | e | e | e
        · rw [e]; exact zl
        · rw [e]; exact Heap.lt_size p2
        · rw [e]; exact Heap.lt_size p3
        · rw [e]; exact p4.lt
        · rw [e]; exact p5.lt
      rw [upd_ne (Nat.ne_of_lt hlt)]
      exact (hf q hq).1
  done := by
    intro X hP hw hK hc i pins s σ H E I hf ⟨p1, p2, ⟨x0, y0, p3⟩, p4, p5⟩ ⟨xs, ys, hx, hy, no⟩
    subst hP hw hK
    obtain ⟨its, rv, q1⟩ := sqB_at I hx
    obtain ⟨jts, rw', q2⟩ := sqB_at I hy
    have l1 := rv.length
    have l2 := rw'.length
    have no' : its.toArray[i]? = none ∨ jts.toArray[i]? = none := by
      rcases no with q | q
      · exact .inl (by simp; omega)
      · exact .inr (by simp; omega)
    refine pyNext_zipM_end (I.ok.hd hc) D p1 p2 p3 p4 p5 q1 q2 no' fun g gk => ⟨rfl, ?_⟩
    exact I.turnedL (t' := s.toks) (ch := [z, t1, t2, u1, u2]) (fun q o hq e => gk q o (fun r => hq (by simp [r])) (fun r => hq (by simp [r])) (fun r => hq (by simp [r])) (fun r => hq (by simp [r])) e) hf
  self := fun A i s Q E st h => wpAny_pyIter_zip st.1 h
def iZipM (K : PySem.W.Frag) (ta : TA) : TI := fun σ H R => ta σ H fun vs H1 => ∃ b c a a2 xs ys, vs = [.ref a, .ref a2] ∧ SqB b K H1 a xs ∧ SqB c K H1 a2 ys ∧ R (ItM b c K a a2) H1
theorem pi_zipM {X : Cx} {e e2 : Expr} {ta : TA} {p pos tpos : Pos} {elts : List Expr} {kk : Nat} (hg : Gl X "zip") (hm : X.mg "zip" = none) (ha : PA X [e, e2] ta)
    (hs : starEach [e, e2] X.env = (false, eval e X.env) :: starEach [e2] X.env) (hpl : (backTo pos (starEach [e2] X.env)).any (·.1) = false) :
    PI X (.Tuple elts kk tpos) (.Call (.Name "zip" p) [e, e2] [] pos) (iZipM X.K ta) := by
  refine ⟨fun pins s σ H R I h => ?_⟩
  refine Call_ (ld_blt I hg hm PyProof.Rows.boot_zip (PyProof.Rows.callWith_type1 (thn (ha.run pos pins s σ H _ I h) fun us s1 ⟨vs, H1, I1, r1, b, c, a, a2, xs, ys, ex, hx, hy, q⟩ => ?_) hs hpl))
  subst ex
  obtain ⟨u, v, rfl, r, r'⟩ := vals2 r1
  cases r
  cases r'
  obtain ⟨its, rv, q1⟩ := sqB_at I1 hx
  obtain ⟨jts, rw', q2⟩ := sqB_at I1 hy
  refine call_zipM q1 q2 fun g g1 g2 g3 g4 g5 gk => wpAny_pyIter_zip g1 ?_
  have I2 : Inv X pins σ H1 { s1 with heap := g } := I1.kept (t' := s1.toks) gk
  refine ⟨s1.heap.objs.size + 4, [s1.heap.objs.size + 4, s1.heap.objs.size + 2, s1.heap.objs.size + 3, s1.heap.objs.size, s1.heap.objs.size + 1], _, _, H1, rfl, I2, turnM (PySem.W.ktu_apart s1.heap.objs.size a a2 q1.lt q2.lt), ⟨g1, g2, ⟨_, _, g3⟩, g4, g5⟩, fun q hq => ?_, q⟩
  have hle : s1.heap.objs.size ≤ q := by
    rcases five hq with e | e | e | e | e <;> rw [e] <;> omega
  exact I1.fpOk hle (I1.hok.fresh hle)
end EV

/-! EvIter: what loops and comprehensions walk, by data. -/
namespace EV
open PySem PySem.Spec PyProof.Rows L2

mutual
theorem same_eq : ∀ {d e : D}, same d e = true → d = e
  | .non, e, h => by cases e <;> first | rfl | cases h
  | .bl _, e, h => by cases e <;> first | exact congrArg _ (eq_of_beq h) | cases h
  | .int _, e, h => by cases e <;> first | exact congrArg _ (eq_of_beq h) | cases h
  | .str _, e, h => by cases e <;> first | exact congrArg _ (eq_of_beq h) | cases h
  | .tup _, e, h => by cases e <;> first | exact congrArg _ (sames_eq h) | cases h
  | .lst _, e, h => by cases e <;> first | exact congrArg _ (sames_eq h) | cases h
  | .cell _, e, h => by cases e <;> first | exact congrArg _ (eq_of_beq h) | cases h
  | .fn _, e, h => by cases e <;> first | exact congrArg _ (eq_of_beq h) | cases h
  | .exc _, e, h => by cases e <;> first | exact congrArg _ (eq_of_beq h) | cases h
  | .obj _, e, h => by cases e <;> first | exact congrArg _ (eq_of_beq h) | cases h
  | .scr _, e, h => by cases e <;> cases h
theorem sames_eq : ∀ {ds es : List D}, sames ds es = true → ds = es
  | [], [], _ => rfl
  | [], _ :: _, h => by cases h
  | _ :: _, [], h => by cases h
  | d :: ds, e :: es, h => by
    have h' : (same d e && sames ds es) = true := h
    rw [Bool.and_eq_true] at h'
    rw [same_eq h'.1, sames_eq h'.2]
end

section
variable {Y : Fix} {k : Nat} {N : List Str} {W : WX} {σ : L2.St} {I H H0 I' H' : Hp} {S S' : Sto} {μ μ' : List Addr}
/-- a later state, in which what is walked stands as it did -/
structure Later (Y : Fix) (own : Bool) (I H : Hp) (μ : List Addr) (I' H' : Hp) (S' : Sto) (μ' : List Addr) (ck : M Unit) : Prop where
  sub : Same I I'
  mu : μ <+: μ'
  w : Wd Y I' H' S' μ'
  ck : ck S' ≠ .stuck
  own : own = true → ∀ a o, H a = some o → I a = none → a ∉ μ → H' a = some o
theorem later_look {own : Bool} {d d' : D} {v : V} {as bs : List D} (w : Wd Y I H S μ) (hv : View Y I H μ d v) (ho : own = false → Rep Y I μ d v) (e : view d S = .ok d' S') (l : Later Y own I H μ I' H' S1 μ' (still (d :: as) (d' :: bs))) :
    Look Y I' H' μ' d' v ∧ Later Y own I H μ I' H' S1 μ' (still as bs) := by
  by_cases hc : ∃ n, d = .cell n
  · obtain ⟨n, rfl⟩ := hc
    have e' : (match S[n]? with
      | some (.lst ds) => (.ok (.lst ds) S : Res D)
      | _ => .stuck) = .ok d' S' := e
    split at e'
    · rename_i ds q
      cases e'
      have ck := l.ck
      have ck' : (match S1[n]? with
        | some (.lst es) => if sames ds es = true then still as bs S1 else .stuck
        | _ => .stuck) ≠ .stuck := ck
      split at ck'
      · rename_i es q2
        split at ck'
        · rename_i hs
          have := sames_eq hs
          subst this
          have r : Rep Y I μ (.cell n) v := by
            rcases hv with r | ⟨_, _, _, z, _⟩
            · exact r
            · cases z
          obtain ⟨a, rfl, m⟩ := r
          obtain ⟨a', m', _, vs, h1, h2, h3⟩ := l.w.cell n _ q2
          have ea : a' = a := by
            obtain ⟨t, rfl⟩ := l.mu
            have hl := (List.getElem?_eq_some_iff.mp m).1
            rw [List.getElem?_append_left hl, m] at m'
            exact (Option.some.inj m').symm
          subst ea
          exact ⟨.inr ⟨ds, a', vs, rfl, rfl, h1, h2, h3⟩, ⟨l.sub, l.mu, l.w, ck', l.own⟩⟩
        · exact absurd rfl ck'
      · exact absurd rfl ck'
    · cases e'
  · have st : still (d :: as) (d' :: bs) = still as bs := by
      cases d <;> first | rfl | exact absurd ⟨_, rfl⟩ hc
    have ed : view d S = .ok d S := by
      cases d <;> first | rfl | exact absurd ⟨_, rfl⟩ hc
    rw [ed] at e
    cases e
    refine ⟨?_, ⟨l.sub, l.mu, l.w, by rw [← st]; exact l.ck, l.own⟩⟩
    rcases hv with r | ⟨ds, a, vs, rfl, rfl, h1, h2, h3, h4, h5⟩
    · exact .inl (r.mono l.sub l.mu)
    · cases own with
      | true => exact .inr ⟨ds, a, vs, rfl, rfl, l.own rfl a _ h1 h2 h3, h4, h5.mono l.sub l.mu⟩
      | false => exact .inl ((ho rfl).mono l.sub l.mu)
theorem view_st {d d' : D} (h : view d S = .ok d' S') : S' = S := by
  cases d with
  | cell n =>
    have e' : (match S[n]? with
      | some (.lst ds) => (.ok (.lst ds) S : Res D)
      | _ => .stuck) = .ok d' S' := h
    split at e' <;> cases e'
    rfl
  | _ => cases h; rfl
theorem viewAll_st : ∀ {ds ds' : List D} {S S' : Sto}, EV.viewAll ds S = .ok ds' S' → S' = S
  | [], _, _, _, h => by cases h; rfl
  | d :: ds, _, _, _, h => by
    obtain ⟨d', S1, e1, h⟩ := bnd_ok h
    obtain ⟨ds', S2, e2, h⟩ := bnd_ok h
    cases h
    rw [viewAll_st e2, view_st e1]
def OwnOk (Y : Fix) (own : Bool) (I : Hp) (μ : List Addr) : List D → List V → Prop
  | [], _ => True
  | _ :: _, [] => True
  | d :: ds, v :: vs => (own = false → Rep Y I μ d v) ∧ OwnOk Y own I μ ds vs
theorem later_looks {own : Bool} {as : List D} : ∀ {bs : List D} {vs : List V} {S1 : Sto}, Wd Y I H S μ → Views Y I H μ as vs → OwnOk Y own I μ as vs → EV.viewAll as S = .ok bs S' → Later Y own I H μ I' H' S1 μ' (still as bs) → Looks Y I' H' μ' bs vs := by
  induction as generalizing S' with
  | nil =>
    intro bs vs S1 w hv ho e l
    cases e
    exact hv
  | cons d as ih =>
    intro bs vs S1 w ⟨v, r, e1, h1, h2⟩ ho e l
    subst e1
    obtain ⟨d', S2, e2, e⟩ := bnd_ok e
    obtain ⟨ds', S3, e3, e⟩ := bnd_ok e
    cases e
    have es := view_st e2
    subst es
    obtain ⟨k1, k2⟩ := later_look w h1 ho.1 e2 l
    exact ⟨v, r, rfl, k1, ih w h2 ho.2 e3 k2⟩
/-- an iterator that walks these data -/
def Wk (Y : Fix) (J : L2.It) (own : Bool) (I H : Hp) (μ : List Addr) (ck : M Unit) (ds : List D) : Prop :=
  ds.length ≤ sizeLine ∧ ∀ I' H' S' μ', Later Y own I H μ I' H' S' μ' ck → ∀ i : Nat, (ds.length ≤ i → J.stop i H') ∧ ∀ d, ds[i]? = some d → J.go i H' ∧ ∀ x H2, J.yld i H' x H2 → ∃ I2, Ext I' H' μ' I2 H2 μ' ∧ Wd Y I2 H2 S' μ' ∧ Rep Y I2 μ' d x
theorem wk_lst {own : Bool} {ck : M Unit} {ds : List D} {a : Addr} (z0 : ds.length ≤ sizeLine) (h : ∀ I' H' S' μ', Later Y own I H μ I' H' S' μ' ck → Looks Y I' H' μ' [.lst ds] [.ref a]) : Wk Y (Itl Y.K a) own I H μ ck ds := ⟨z0, fun I' H' S' μ' l i => by
  obtain ⟨v, e, q⟩ := looks1 (h _ _ _ _ l)
  cases e
  obtain ⟨a', vs, e, h1, z, r⟩ := q.lst l.w.sub
  cases e
  refine ⟨fun hi => ⟨vs, SqL.of h1, by rw [r.length]; exact hi⟩, fun d hd => ?_⟩
  obtain ⟨x, hx, rx⟩ := r.get hd
  exact ⟨⟨vs, x, SqL.of h1, hx⟩, fun y H2 ⟨e, hy⟩ => by
    subst e
    have ey : some x = some y := hx.symm.trans (hy _ (SqL.of h1))
    cases ey
    exact ⟨I', Ext.refl, l.w, rx⟩⟩⟩
theorem wk_tup {own : Bool} {ck : M Unit} {ds : List D} {a : Addr} (z0 : ds.length ≤ sizeLine) (h : ∀ I' H' S' μ', Later Y own I H μ I' H' S' μ' ck → Looks Y I' H' μ' [.tup ds] [.ref a]) : Wk Y (Itt Y.K a) own I H μ ck ds := ⟨z0, fun I' H' S' μ' l i => by
  obtain ⟨v, e, q⟩ := looks1 (h _ _ _ _ l)
  cases e
  obtain ⟨a', vs, e, h1, z, r⟩ := q.tup l.w.sub
  cases e
  refine ⟨fun hi => ⟨vs, SqT.of h1, by rw [r.length]; exact hi⟩, fun d hd => ?_⟩
  obtain ⟨x, hx, rx⟩ := r.get hd
  exact ⟨⟨vs, x, SqT.of h1, hx⟩, fun y H2 ⟨e, hy⟩ => by
    subst e
    have ey : some x = some y := hx.symm.trans (hy _ (SqT.of h1))
    cases ey
    exact ⟨I', Ext.refl, l.w, rx⟩⟩⟩
theorem wk_str {own : Bool} {ck : M Unit} {z : Str} (z0 : z.cps.size ≤ sizeLine) : Wk Y (Its z) own I H μ ck (z.cps.toList.map fun c => D.str ⟨#[c]⟩) := ⟨by rw [List.length_map, Array.length_toList]; exact z0, fun I' H' S' μ' l i => by
  refine ⟨fun hi => ?_, fun d hd => ?_⟩
  · rw [List.length_map, Array.length_toList] at hi
    exact hi
  · rw [List.getElem?_map] at hd
    cases hc : z.cps.toList[i]? with
    | none => rw [hc] at hd; cases hd
    | some c =>
      rw [hc] at hd
      cases hd
      have hlt : i < z.cps.size := by
        have := (List.getElem?_eq_some_iff.mp hc).1
        rw [Array.length_toList] at this
        exact this
      refine ⟨hlt, fun y H2 ⟨e, c', hc', ey⟩ => ?_⟩
      subst e
      have e2 : some c = some c' := by
        rw [← hc, ← hc', Array.getElem?_toList]
      cases e2
      subst ey
      exact ⟨I', Ext.refl, l.w, str1_ok⟩⟩
theorem wk_range {own : Bool} {ck : M Unit} {lo hi : Int} (z0 : (hi - lo).toNat ≤ lim) : Wk Y (Itr lo (hi - lo).toNat) own I H μ ck (rangeD lo hi) := ⟨by unfold rangeD; rw [List.length_map, List.length_range]; exact z0, fun I' H' S' μ' l i => by
  unfold rangeD
  refine ⟨fun h => ?_, fun d hd => ?_⟩
  · rw [List.length_map, List.length_range] at h
    exact h
  · rw [List.getElem?_map] at hd
    by_cases hlt : i < (hi - lo).toNat
    · rw [List.getElem?_range hlt] at hd
      cases hd
      exact ⟨hlt, fun y H2 ⟨e, ey⟩ => by
        subst e
        subst ey
        exact ⟨I', Ext.refl, l.w, rfl⟩⟩
    · rw [List.getElem?_eq_none (by rw [List.length_range]; omega)] at hd
      cases hd⟩
/-- a pair made anew -/
theorem pair_new {d e : D} {v u : V} {p : Addr} (w : Wd Y I H S μ) (hp : H p = none) (r1 : Rep Y I μ d v) (r2 : Rep Y I μ e u) : ∃ I2, Ext I H μ I2 (upd H p (.tup [v, u])) μ ∧ Wd Y I2 (upd H p (.tup [v, u])) S μ ∧ Rep Y I2 μ (.tup [d, e]) (.ref p) := by
  obtain ⟨w', x⟩ := w.addI (o := .tup [v, u]) hp
  exact ⟨_, x, w', p, [v, u], rfl, upd_same, by show 2 ≤ sizeLine; decide, Reps.cons (r1.mono x.sub x.mu) (Reps.cons (r2.mono x.sub x.mu) Reps.nil)⟩
theorem enumD_get {ds : List D} {i : Nat} {d : D} (h : (enumD ds)[i]? = some d) : ∃ e, ds[i]? = some e ∧ d = .tup [.int (i : Int), e] := by
  unfold enumD at h
  rw [List.getElem?_zipWith] at h
  by_cases hlt : i < ds.length
  · rw [List.getElem?_range hlt, List.getElem?_eq_getElem hlt] at h
    cases h
    exact ⟨_, List.getElem?_eq_getElem hlt, rfl⟩
  · rw [List.getElem?_eq_none (by rw [List.length_range]; omega)] at h
    cases h
theorem enumD_len (ds : List D) : (enumD ds).length = ds.length := by
  unfold enumD
  rw [List.length_zipWith, List.length_range, Nat.min_self]
theorem wk_enum {own : Bool} {ck : M Unit} {ds : List D} {a : Addr} (z0 : ds.length ≤ sizeLine) (h : ∀ I' H' S' μ', Later Y own I H μ I' H' S' μ' ck → Looks Y I' H' μ' [.lst ds] [.ref a]) : Wk Y (Ite Y.K a) own I H μ ck (enumD ds) := ⟨by rw [enumD_len]; exact z0, fun I' H' S' μ' l i => by
  obtain ⟨v, e, q⟩ := looks1 (h _ _ _ _ l)
  cases e
  obtain ⟨a', vs, e, h1, z, r⟩ := q.lst l.w.sub
  cases e
  refine ⟨fun hi => ⟨vs, SqL.of h1, by rw [enumD_len] at hi; rw [r.length]; exact hi⟩, fun d hd => ?_⟩
  obtain ⟨e, he, rfl⟩ := enumD_get hd
  obtain ⟨x, hx, rx⟩ := r.get he
  refine ⟨⟨vs, x, SqL.of h1, hx⟩, fun y H2 ⟨t, x', e1, e2, e3, hy⟩ => ?_⟩
  subst e1 e3
  have ey : some x = some x' := hx.symm.trans (hy _ (SqL.of h1))
  cases ey
  exact pair_new l.w e2 (show Rep Y I' μ' (.int (i : Int)) (.int (i : Nat)) from rfl) rx⟩
def isT : D → Bool
  | .tup _ => true
  | _ => false
def seqD : D → List D
  | .lst ds => ds
  | .tup ds => ds
  | _ => []
theorem look_seq {d : D} {v : V} (s : Same I H) (l : Look Y I H μ d v) (h : (∃ ds, d = .lst ds) ∨ ∃ ds, d = .tup ds) : ∃ a vs, v = .ref a ∧ SqB (isT d) Y.K H a vs ∧ Reps Y I μ (seqD d) vs := by
  rcases h with ⟨ds, rfl⟩ | ⟨ds, rfl⟩
  · obtain ⟨a, vs, e, h1, z, r⟩ := l.lst s
    exact ⟨a, vs, e, SqL.of h1, r⟩
  · obtain ⟨a, vs, e, h1, z, r⟩ := l.tup s
    exact ⟨a, vs, e, SqT.of h1, r⟩
theorem wk_zip {own : Bool} {ck : M Unit} {d e : D} {a a2 : Addr} (z0 : (seqD d).length ≤ sizeLine) (hd : (∃ ds, d = .lst ds) ∨ ∃ ds, d = .tup ds) (he : (∃ ds, e = .lst ds) ∨ ∃ ds, e = .tup ds)
    (h : ∀ I' H' S' μ', Later Y own I H μ I' H' S' μ' ck → Looks Y I' H' μ' [d, e] [.ref a, .ref a2]) : Wk Y (ItM (isT d) (isT e) Y.K a a2) own I H μ ck (zipD (seqD d) (seqD e)) := ⟨by unfold zipD; rw [List.length_zipWith]; omega, fun I' H' S' μ' l i => by
  obtain ⟨v, u, ev, q1, q2⟩ := looks2 (h _ _ _ _ l)
  cases ev
  obtain ⟨b1, vs, e1, h1, r1⟩ := look_seq l.w.sub q1 hd
  obtain ⟨b2, us, e2, h2, r2⟩ := look_seq l.w.sub q2 he
  cases e1; cases e2
  have l1 := r1.length
  have l2 := r2.length
  unfold zipD
  refine ⟨fun hi => ⟨vs, us, h1, h2, ?_⟩, fun p hp => ?_⟩
  · rw [List.length_zipWith] at hi
    omega
  · rw [List.getElem?_zipWith] at hp
    cases c1 : (seqD d)[i]? with
    | none => rw [c1] at hp; cases hp
    | some x1 =>
      cases c2 : (seqD e)[i]? with
      | none => rw [c1, c2] at hp; cases hp
      | some x2 =>
        rw [c1, c2] at hp
        cases hp
        obtain ⟨y1, hy1, ry1⟩ := r1.get c1
        obtain ⟨y2, hy2, ry2⟩ := r2.get c2
        refine ⟨⟨vs, us, y1, y2, h1, h2, hy1, hy2⟩, fun y H2 ⟨t, w1, w2, e1, e2, e3, k1, k2⟩ => ?_⟩
        subst e1 e3
        have z1 : some y1 = some w1 := hy1.symm.trans (k1 _ h1)
        have z2 : some y2 = some w2 := hy2.symm.trans (k2 _ h2)
        cases z1; cases z2
        exact pair_new l.w e2 ry1 ry2⟩
end
end EV

/-! EvComp: iterables, targets, comprehensions. -/
namespace EV
open PySem PySem.Spec PyProof.Rows L2

section
variable (Y : Fix) (k : Nat) (W : WX)
def tO (own : Bool) (m : ME) : TA := fun σ H Q => ∃ I S μ ρ, Wd Y I H S μ ∧ EnvOk Y I H μ ρ σ ∧ Aft Y W σ I H μ (evO (cl Y k) own m ρ S) fun ds I' H' _ μ' => ∀ vs, Views Y I' H' μ' ds vs → OwnOk Y own I' μ' ds vs → Q vs H'
def tI (own : Bool) (q : It) (m : ME) : TI := fun σ H R => ∃ I S μ ρ, Wd Y I H S μ ∧ EnvOk Y I H μ ρ σ ∧ Aft Y W σ I H μ (evI (cl Y k) own q m ρ S) fun t I' H' _ μ' => ∀ J, Wk Y J own I' H' μ' (still t.1 t.2.1) t.2.2 → R J H'
end
section
variable {Y : Fix} {k : Nat} {N : List Str} {W : WX} {σ : L2.St} {I H H0 I' H' : Hp} {S S' : Sto} {μ μ' : List Addr}
theorem mono_PI {X : Cx} {tg e : Expr} {t t' : TI} (h : PI X tg e t) (q : ∀ σ H R, t' σ H R → t σ H R) : PI X tg e t' := ⟨fun pins s σ H R I z => h.run pins s σ H R I (q σ H R z)⟩
theorem or_PI {X : Cx} {tg e : Expr} {t t' : TI} (h : PI X tg e t) (h' : PI X tg e t') : PI X tg e (fun σ H R => t σ H R ∨ t' σ H R) := ⟨fun pins s σ H R I z => z.elim (h.run pins s σ H R I) (h'.run pins s σ H R I)⟩
theorem reps_views {I H : Hp} {μ : List Addr} : ∀ {ds : List D} {vs : List V}, Reps Y I μ ds vs → Views Y I H μ ds vs ∧ OwnOk Y false I μ ds vs
  | [], _, h => by cases (show _ = ([] : List V) from h); exact ⟨rfl, trivial⟩
  | d :: ds, _, ⟨v, r, e, h, t⟩ => by
    subst e
    have q := reps_views (H := H) t
    exact And.intro ⟨v, r, rfl, .inl h, q.1⟩ (And.intro (fun _ => h) q.2)
theorem own_true : ∀ {ds : List D} {vs : List V}, OwnOk Y true I μ ds vs
  | [], _ => trivial
  | _ :: _, [] => trivial
  | d :: ds, v :: vs => ⟨fun z => (nomatch z), own_true (ds := ds) (vs := vs)⟩
theorem tO_of {X : Cx} {es : List Expr} {own : Bool} {m : ME} (h1 : PA X es (tA Y k W m)) (h2 : PA X es (tAV Y k W m)) : PA X es (tO Y k W own m) := by
  cases own with
  | true => exact mono_PA h2 fun σ H Q ⟨I, S, μ, ρ, w, en, q⟩ => ⟨I, S, μ, ρ, w, en, Aft.mono q fun ds I1 H1 S1 μ1 x1 w1 z vs vw => z vs vw own_true⟩
  | false => exact mono_PA h1 fun σ H Q ⟨I, S, μ, ρ, w, en, q⟩ => ⟨I, S, μ, ρ, w, en, Aft.mono q fun ds I1 H1 S1 μ1 x1 w1 z vs r => z vs (reps_views (H := H1) r).1 (reps_views (H := H1) r).2⟩
/-- it gives something, or is stuck; the store stays -/
def Quiet {α : Type} (m : M α) : Prop := ∀ S, m S = .stuck ∨ ∃ a, m S = .ok a S
theorem Quiet.ret {α : Type} (a : α) : Quiet (pure a : M α) := fun S => .inr ⟨a, rfl⟩
theorem Quiet.no {α : Type} : Quiet (M.stuck : M α) := fun S => .inl rfl
theorem Quiet.bnd {α β : Type} {m : M α} {f : α → M β} (h : Quiet m) (hf : ∀ a, Quiet (f a)) : Quiet (m >>= f) := fun S => by
  rcases h S with e | ⟨a, e⟩
  · exact .inl (bnd_stuck e)
  · rw [bnd_at e]; exact hf a S
theorem quiet_view (d : D) : Quiet (view d) := fun S => by
  cases d with
  | cell n =>
    show (match S[n]? with
      | some (.lst ds) => (.ok (.lst ds) S : Res D)
      | _ => .stuck) = .stuck ∨ ∃ a, (match S[n]? with
      | some (.lst ds) => (.ok (.lst ds) S : Res D)
      | _ => .stuck) = .ok a S
    split
    · exact .inr ⟨_, rfl⟩
    · exact .inl rfl
  | _ => exact .inr ⟨_, rfl⟩
theorem quiet_viewAll : ∀ ds : List D, Quiet (EV.viewAll ds)
  | [] => .ret _
  | d :: ds => (quiet_view d).bnd fun _ => (quiet_viewAll ds).bnd fun _ => .ret _
theorem quiet_ite {α : Type} {c : Prop} [Decidable c] {m n : M α} (h : Quiet m) (h' : Quiet n) : Quiet (if c then m else n) := by
  by_cases e : c
  · rw [if_pos e]; exact h
  · rw [if_neg e]; exact h'
theorem quiet_items (d : D) : Quiet (items d) := by cases d <;> first | exact .ret _ | exact .no
theorem quiet_range (i j : Int) : Quiet (rangeM i j) := quiet_ite (.ret _) .no
theorem quiet_walk (q : It) (ds : List D) : Quiet (walk q ds) := by
  unfold walk
  split
  · exact quiet_items _
  · exact quiet_range _ _
  · exact quiet_range _ _
  · exact .ret _
  · exact .ret _
  all_goals first | exact .ret _ | exact .no
theorem looks_now {as bs : List D} {vs : List V} (w : Wd Y I H S μ) (hv : Views Y I H μ as vs) (e : EV.viewAll as S = .ok bs S') : Looks Y I H μ bs vs := by
  have h : Aft Y (fun _ _ _ _ => True) [] I H μ (EV.viewAll as S) (fun ds' _ _ _ _ => ds' = bs) := by
    rw [e]
    exact fun _ _ _ _ _ => rfl
  obtain ⟨ds', l, rfl⟩ := Aft.viewAll w hv h
  exact l
/-- the arguments have come; what is walked -/
theorem evI_at {own : Bool} {q : It} {m : ME} {ρ : Env} {G : List D × List D × List D → Hp → Hp → Sto → List Addr → Prop} (h : Aft Y W σ I H μ (evI (cl Y k) own q m ρ S) G) :
    Aft Y W σ I H μ (evO (cl Y k) own m ρ S) fun as I1 H1 S1 μ1 => ∃ bs ds, EV.viewAll as S1 = .ok bs S1 ∧ walk q bs S1 = .ok ds S1 ∧ G (as, bs, ds) I1 H1 S1 μ1 := by
  refine (Aft.bind h).mono fun as I1 H1 S1 μ1 x1 w1 h1 => ?_
  rcases quiet_viewAll as S1 with e1 | ⟨bs, e1⟩
  · rw [bnd_stuck e1] at h1; exact h1.elim
  · rw [bnd_at e1] at h1
    rcases quiet_walk q bs S1 with e2 | ⟨ds, e2⟩
    · rw [bnd_stuck e2] at h1; exact h1.elim
    · rw [bnd_at e2] at h1
      exact ⟨bs, ds, e1, e2, h1.ret w1⟩
theorem views1 {d : D} {vs : List V} (h : Views Y I H μ [d] vs) : ∃ v, vs = [v] ∧ View Y I H μ d v := by
  obtain ⟨v, r, e, l, q⟩ := h
  have : r = [] := q
  subst this
  exact ⟨v, e, l⟩
theorem looks_len : ∀ {ds : List D} {vs : List V}, Looks Y I H μ ds vs → vs.length = ds.length
  | [], _, h => by rw [show _ = ([] : List V) from h]; rfl
  | _ :: _, _, ⟨_, _, e, _, t⟩ => by rw [e, List.length_cons, List.length_cons, looks_len t]
theorem inv_enum {ds : List D} : ∀ {bs : List D}, walk .enum bs S = .ok ds S' → ∃ es, bs = [.lst es] ∧ ds = enumD es
  | [], h => by cases h
  | [d], h => by cases d <;> first | (cases h; exact ⟨_, rfl, rfl⟩) | cases h
  | d :: _ :: _, h => by cases d <;> cases h
theorem inv_zip {ds : List D} : ∀ {bs : List D}, walk .zip bs S = .ok ds S' → ∃ d e, bs = [d, e] ∧ ((∃ ds, d = .lst ds) ∨ ∃ ds, d = .tup ds) ∧ ((∃ ds, e = .lst ds) ∨ ∃ ds, e = .tup ds) ∧ ds = zipD (seqD d) (seqD e)
  | [], h => by cases h
  | [d], h => by cases d <;> cases h
  | [d, e], h => by
    cases d <;> first
      | (cases e <;> first
        | (cases h; exact ⟨_, _, rfl, by first | exact .inl ⟨_, rfl⟩ | exact .inr ⟨_, rfl⟩, by first | exact .inl ⟨_, rfl⟩ | exact .inr ⟨_, rfl⟩, rfl⟩)
        | cases h)
      | cases h
  | d :: e :: _ :: _, h => by cases d <;> first | cases h | (cases e <;> cases h)
theorem inv_range1 {ds : List D} : ∀ {bs : List D}, walk .range1 bs S = .ok ds S' → ∃ j, bs = [.int j] ∧ rangeM 0 j S = .ok ds S'
  | [], h => by cases h
  | [d], h => by cases d <;> first | exact ⟨_, rfl, h⟩ | cases h
  | d :: _ :: _, h => by cases d <;> cases h
theorem inv_range2 {ds : List D} : ∀ {bs : List D}, walk .range2 bs S = .ok ds S' → ∃ i j, bs = [.int i, .int j] ∧ rangeM i j S = .ok ds S'
  | [], h => by cases h
  | [d], h => by cases d <;> cases h
  | [d, e], h => by cases d <;> first | (cases e <;> first | exact ⟨_, _, rfl, h⟩ | cases h) | cases h
  | d :: e :: _ :: _, h => by cases d <;> first | cases h | (cases e <;> cases h)
theorem inv_seq {ds : List D} : ∀ {bs : List D}, walk .seq bs S = .ok ds S' → ∃ d, bs = [d] ∧ ((∃ es, d = .lst es ∧ ds = es) ∨ (∃ es, d = .tup es ∧ ds = es) ∨ ∃ z, d = .str z ∧ ds = z.cps.toList.map fun c => D.str ⟨#[c]⟩)
  | [], h => by cases h
  | [d], h => by
    cases d <;> first
      | (cases h; exact ⟨_, rfl, .inl ⟨_, rfl, rfl⟩⟩)
      | (cases h; exact ⟨_, rfl, .inr (.inl ⟨_, rfl, rfl⟩)⟩)
      | (cases h; exact ⟨_, rfl, .inr (.inr ⟨_, rfl, rfl⟩)⟩)
      | cases h
  | d :: _ :: _, h => by cases d <;> cases h
theorem s_enum {X : Cx} {e : Expr} {own : Bool} {m : ME} {p pos tpos : Pos} {elts : List Expr} {kk : Nat} {sc : Scope} (g : Gx Y k N sc X) (hg : glB sc "enumerate" = true) (hs : notStar e = true) (h : PA X [e] (tO Y k W own m)) :
    PI X (.Tuple elts kk tpos) (.Call (.Name "enumerate" p) [e] [] pos) (tI Y k W own .enum m) := by
  obtain ⟨g1, _, _⟩ := gl_of hg g.hs
  refine mono_PI (pi_enum g1 (g.free _ (by decide)) h (star_cons hs)) fun σ H R ⟨I, S, μ, ρ, w, en, q⟩ => ⟨I, S, μ, ρ, w, en, (evI_at q).mono fun as I1 H1 S1 μ1 x1 w1 ⟨bs, ds, e1, e2, q1⟩ vs vw ho => ?_⟩
  have lk := looks_now w1 vw e1
  obtain ⟨es, rfl, rfl⟩ := inv_enum e2
  obtain ⟨v, ev, l⟩ := looks1 lk
  subst ev
  obtain ⟨a, us, ea, h1, z0, _⟩ := l.lst w1.sub
  subst ea
  refine ⟨a, us, rfl, SqL.of h1, ?_⟩
  rw [g.hK]
  exact q1 _ (wk_enum z0 fun I' H' S' μ' lt => later_looks w1 vw ho e1 lt)
theorem s_zip {X : Cx} {e e2 : Expr} {own : Bool} {m : ME} {p pos tpos : Pos} {elts : List Expr} {kk : Nat} {sc : Scope} (g : Gx Y k N sc X) (hg : glB sc "zip" = true) (hs : ∀ y ∈ [e, e2], notStar y = true) (h : PA X [e, e2] (tO Y k W own m)) :
    PI X (.Tuple elts kk tpos) (.Call (.Name "zip" p) [e, e2] [] pos) (tI Y k W own .zip m) := by
  obtain ⟨g1, _, _⟩ := gl_of hg g.hs
  have n1 := star_cons (env := X.env) (es := [e2]) (hs e (by simp))
  have n2 := star_any (env := X.env) (pos := pos) (es := [e2]) fun x m => hs x (List.mem_cons_of_mem _ m)
  refine mono_PI (pi_zipM g1 (g.free _ (by decide)) h n1 n2) fun σ H R ⟨I, S, μ, ρ, w, en, q⟩ => ⟨I, S, μ, ρ, w, en, (evI_at q).mono fun as I1 H1 S1 μ1 x1 w1 ⟨bs, ds, e1, e2, q1⟩ vs vw ho => ?_⟩
  have lk := looks_now w1 vw e1
  have go : ∀ d e : D, bs = [d, e] → ((∃ ds, d = .lst ds) ∨ ∃ ds, d = .tup ds) → ((∃ ds, e = .lst ds) ∨ ∃ ds, e = .tup ds) → ds = zipD (seqD d) (seqD e) →
      ∃ b c a a2 xs ys, vs = [.ref a, .ref a2] ∧ SqB b X.K H1 a xs ∧ SqB c X.K H1 a2 ys ∧ R (ItM b c X.K a a2) H1 := fun d e eb hd he ed => by
    subst eb ed
    obtain ⟨v, u, ev, l1, l2⟩ := looks2 lk
    subst ev
    obtain ⟨a, us, ea, h1, _⟩ := look_seq w1.sub l1 hd
    obtain ⟨a2, us2, ea2, h2, _⟩ := look_seq w1.sub l2 he
    subst ea ea2
    refine ⟨_, _, a, a2, us, us2, rfl, by rw [g.hK]; exact h1, by rw [g.hK]; exact h2, ?_⟩
    rw [g.hK]
    have z0 : (seqD d).length ≤ sizeLine := by
      rcases hd with ⟨es, rfl⟩ | ⟨es, rfl⟩
      · obtain ⟨_, _, _, _, z, _⟩ := l1.lst w1.sub
        exact z
      · obtain ⟨_, _, _, _, z, _⟩ := l1.tup w1.sub
        exact z
    exact q1 _ (wk_zip z0 hd he fun I' H' S' μ' lt => later_looks w1 vw ho e1 lt)
  obtain ⟨d, e, eb, hd, he, ed⟩ := inv_zip e2
  exact go d e eb hd he ed
theorem range_at {i j : Int} {ds : List D} (h : rangeM i j S = .ok ds S') : ds = rangeD i j ∧ (-(2 ^ 62) ≤ i ∧ i < 2 ^ 62 ∧ -(2 ^ 62) ≤ j ∧ j < 2 ^ 62) ∧ (j - i).toNat ≤ lim := by
  unfold rangeM at h
  split at h
  · rename_i c
    cases h
    have hm : mx = 2 ^ 62 := rfl
    rw [hm] at c
    exact ⟨rfl, ⟨c.1, c.2.1, c.2.2.1, c.2.2.2.1⟩, c.2.2.2.2⟩
  · cases h
theorem s_range1 {X : Cx} {tg e : Expr} {own : Bool} {m : ME} {p pos : Pos} {sc : Scope} (g : Gx Y k N sc X) (hg : glB sc "range" = true) (hs : notStar e = true) (h : PA X [e] (tO Y k W own m)) :
    PI X tg (.Call (.Name "range" p) [e] [] pos) (tI Y k W own .range1 m) := by
  obtain ⟨g1, _, _⟩ := gl_of hg g.hs
  refine mono_PI (pi_range1 g1 (g.free _ (by decide)) h (star_cons hs)) fun σ H R ⟨I, S, μ, ρ, w, en, q⟩ => ⟨I, S, μ, ρ, w, en, (evI_at q).mono fun as I1 H1 S1 μ1 x1 w1 ⟨bs, ds, e1, e2, q1⟩ vs vw ho => ?_⟩
  have lk := looks_now w1 vw e1
  obtain ⟨j, rfl, e2⟩ := inv_range1 e2
  obtain ⟨rfl, hb, z0⟩ := range_at e2
  obtain ⟨v, ev, l⟩ := looks1 lk
  subst ev
  cases look_int l
  refine ⟨j, rfl, hb.2.2.1, hb.2.2.2, q1 _ ?_⟩
  have := wk_range (Y := Y) (own := own) (I := I1) (H := H1) (μ := μ1) (ck := still as [.int j]) (lo := 0) (hi := j) z0
  rw [Int.sub_zero] at this
  exact this
theorem s_range2 {X : Cx} {tg e e2 : Expr} {own : Bool} {m : ME} {p pos : Pos} {sc : Scope} (g : Gx Y k N sc X) (hg : glB sc "range" = true) (hs : ∀ y ∈ [e, e2], notStar y = true) (h : PA X [e, e2] (tO Y k W own m)) :
    PI X tg (.Call (.Name "range" p) [e, e2] [] pos) (tI Y k W own .range2 m) := by
  obtain ⟨g1, _, _⟩ := gl_of hg g.hs
  have n2 := star_cons (env := X.env) (es := []) (hs e2 (by simp))
  have n1 := star_cons (env := X.env) (es := [e2]) (hs e (by simp))
  refine mono_PI (pi_range2 g1 (g.free _ (by decide)) h (by rw [n1, n2]; rfl) n2) fun σ H R ⟨I, S, μ, ρ, w, en, q⟩ => ⟨I, S, μ, ρ, w, en, (evI_at q).mono fun as I1 H1 S1 μ1 x1 w1 ⟨bs, ds, e1, e2, q1⟩ vs vw ho => ?_⟩
  have lk := looks_now w1 vw e1
  obtain ⟨i, j, rfl, e2⟩ := inv_range2 e2
  obtain ⟨rfl, hb, z0⟩ := range_at e2
  obtain ⟨v, u, ev, l, l2⟩ := looks2 lk
  subst ev
  cases look_int l
  cases look_int l2
  exact ⟨i, j, rfl, hb, q1 _ (wk_range z0)⟩
end
end EV

/-! EvComp2: a sequence walked, targets, comprehensions. -/
namespace EV
open PySem PySem.Spec PyProof.Rows L2
section
variable (Y : Fix) (k : Nat) (W : WX)
/-- an expression, looked at or handed on -/
def evOE (X : Cl) (own : Bool) (m : ME) (ρ : Env) : M D := if own then via ρ m (evE X m ρ) else evE X m ρ
def tOE (own : Bool) (m : ME) : TE := fun σ H Q => ∃ I S μ ρ, Wd Y I H S μ ∧ EnvOk Y I H μ ρ σ ∧ Aft Y W σ I H μ (evOE (cl Y k) own m ρ S) fun d I' H' _ μ' => ∀ v, View Y I' H' μ' d v → (own = false → Rep Y I' μ' d v) → Q v H'
end
section
variable {Y : Fix} {k : Nat} {N : List Str} {W : WX} {σ : L2.St} {I H H0 I' H' : Hp} {S S' : Sto} {μ μ' : List Addr}
theorem tOE_of {X : Cx} {e : Expr} {own : Bool} {m : ME} (h1 : PE X e (tE Y k W m)) (h2 : PE X e (tV Y k W m)) : PE X e (tOE Y k W own m) := by
  cases own with
  | true => exact mono_PE h2 fun σ H Q ⟨I, S, μ, ρ, w, en, q⟩ => ⟨I, S, μ, ρ, w, en, Aft.mono q fun d I1 H1 S1 μ1 x1 w1 z v r => z v r fun e => (nomatch e)⟩
  | false => exact mono_PE h1 fun σ H Q ⟨I, S, μ, ρ, w, en, q⟩ => ⟨I, S, μ, ρ, w, en, Aft.mono q fun d I1 H1 S1 μ1 x1 w1 z v r => z v (.inl r) fun _ => r⟩
theorem evO_one {own : Bool} {m : ME} {ρ : Env} : evO (cl Y k) own (.acons m .anil) ρ = (evOE (cl Y k) own m ρ >>= fun d => pure [d]) := by
  cases own <;> rfl
theorem s_seq {X : Cx} {tg e : Expr} {own : Bool} {m : ME} (hK : X.K = Y.K) (h : PE X e (tOE Y k W own m)) : PI X tg e (tI Y k W own .seq (.acons m .anil)) := by
  refine mono_PI (or_PI (pi_list h) (or_PI (pi_tup h) (pi_str h))) fun σ H R ⟨I, S, μ, ρ, w, en, q⟩ => ?_
  have q1 := evI_at q
  rw [evO_one] at q1
  cases e0 : evOE (cl Y k) own m ρ S with
  | stuck => rw [bnd_stuck e0] at q1; exact q1.elim
  | exc c S1 =>
    rw [bnd_exc e0] at q1
    exact .inl ⟨I, S, μ, ρ, w, en, by rw [e0]; exact q1⟩
  | ok d S1 =>
    rw [bnd_at e0] at q1
    have q2 : ∀ I' H' μ', Ext I H μ I' H' μ' → Wd Y I' H' S1 μ' → ∃ bs ds, EV.viewAll [d] S1 = .ok bs S1 ∧ walk .seq bs S1 = .ok ds S1 ∧ ∀ J, Wk Y J own I' H' μ' (still [d] bs) ds → R J H' := q1
    -- what it is does not hang on the heap
    by_cases hb : ∃ bs ds, EV.viewAll [d] S1 = .ok bs S1 ∧ walk .seq bs S1 = .ok ds S1
    · obtain ⟨bs, ds, e1, e2⟩ := hb
      have q3 : ∀ I' H' μ', Ext I H μ I' H' μ' → Wd Y I' H' S1 μ' → ∀ J, Wk Y J own I' H' μ' (still [d] bs) ds → R J H' := fun I' H' μ' x w' => by
        obtain ⟨bs', ds', e1', e2', k'⟩ := q2 I' H' μ' x w'
        rw [e1] at e1'
        cases e1'
        rw [e2] at e2'
        cases e2'
        exact k'
      obtain ⟨d', rfl, hd⟩ := inv_seq e2
      rcases hd with ⟨es, rfl, rfl⟩ | ⟨es, rfl, rfl⟩ | ⟨z, rfl, rfl⟩
      · refine .inl ⟨I, S, μ, ρ, w, en, ?_⟩
        rw [e0]
        intro I' H' μ' x w' v hv ho
        have vw : Views Y I' H' μ' [d] [v] := ⟨v, [], rfl, hv, rfl⟩
        obtain ⟨u, eu, l⟩ := looks1 (looks_now w' vw e1)
        cases eu
        obtain ⟨a, us, ea, h1, z0, _⟩ := l.lst w'.sub
        subst ea
        refine ⟨a, rfl, ⟨us, SqL.of h1⟩, ?_⟩
        rw [hK]
        exact q3 I' H' μ' x w' _ (wk_lst z0 fun I2 H2 S2 μ2 lt => later_looks w' vw ⟨ho, trivial⟩ e1 lt)
      · refine .inr (.inl ⟨I, S, μ, ρ, w, en, ?_⟩)
        rw [e0]
        intro I' H' μ' x w' v hv ho
        have vw : Views Y I' H' μ' [d] [v] := ⟨v, [], rfl, hv, rfl⟩
        obtain ⟨u, eu, l⟩ := looks1 (looks_now w' vw e1)
        cases eu
        obtain ⟨a, us, ea, h1, z0, _⟩ := l.tup w'.sub
        subst ea
        refine ⟨a, rfl, ⟨us, SqT.of h1⟩, ?_⟩
        rw [hK]
        exact q3 I' H' μ' x w' _ (wk_tup z0 fun I2 H2 S2 μ2 lt => later_looks w' vw ⟨ho, trivial⟩ e1 lt)
      · refine .inr (.inr ⟨I, S, μ, ρ, w, en, ?_⟩)
        rw [e0]
        intro I' H' μ' x w' v hv ho
        have vw : Views Y I' H' μ' [d] [v] := ⟨v, [], rfl, hv, rfl⟩
        obtain ⟨u, eu, l⟩ := looks1 (looks_now w' vw e1)
        cases eu
        obtain ⟨rfl, z0⟩ := look_str l
        exact ⟨z, rfl, q3 I' H' μ' x w' _ (wk_str z0)⟩
    · refine .inl ⟨I, S, μ, ρ, w, en, ?_⟩
      rw [e0]
      intro I' H' μ' x w' v hv ho
      obtain ⟨bs, ds, e1, e2, _⟩ := q2 I' H' μ' x w'
      exact absurd ⟨bs, ds, e1, e2⟩ hb

/-! ### targets -/
theorem EnvOk.set {ρ : Env} {i : Nat} {d : D} {v : V} (h : EnvOk Y I H μ ρ σ) (r : Rep Y I μ d v) : EnvOk Y I H μ (setV ρ i d) (σ.set i (some v)) := by
  unfold setV
  refine ⟨by rw [List.length_set, List.length_set]; exact h.len, fun j e q => ?_, fun j ds q => ?_, fun j l a ds es q1 q2 q3 q4 => ?_⟩
  · by_cases hj : i = j
    · subst hj
      have hl : i < ρ.length := by
        have := (List.getElem?_eq_some_iff.mp q).1
        rw [List.length_set] at this
        exact this
      rw [List.getElem?_set_self hl] at q
      cases q
      exact ⟨v, List.getElem?_set_self (by rw [← h.len]; exact hl), r⟩
    · rw [List.getElem?_set_ne hj] at q ⊢
      exact h.val j e q
  · by_cases hj : i = j
    · subst hj
      have hl : i < ρ.length := by
        have := (List.getElem?_eq_some_iff.mp q).1
        rw [List.length_set] at this
        exact this
      rw [List.getElem?_set_self hl] at q
      cases q
    · rw [List.getElem?_set_ne hj] at q ⊢
      exact h.own j ds q
  · have nj : i ≠ j := fun hj => by
      subst hj
      have hl : i < ρ.length := by
        have := (List.getElem?_eq_some_iff.mp q1).1
        rw [List.length_set] at this
        exact this
      rw [List.getElem?_set_self hl] at q1
      cases q1
    have nl : i ≠ l := fun hj => by
      subst hj
      have hl : i < ρ.length := by
        have := (List.getElem?_eq_some_iff.mp q2).1
        rw [List.length_set] at this
        exact this
      rw [List.getElem?_set_self hl] at q2
      cases q2
    rw [List.getElem?_set_ne nj] at q1 q3
    rw [List.getElem?_set_ne nl] at q2 q4
    exact h.sep j l a ds es q1 q2 q3 q4
theorem EnvOk.clear {ρ : Env} {i : Nat} (h : EnvOk Y I H μ ρ σ) : EnvOk Y I H μ (ρ.set i .none) (σ.set i none) := by
  have get : ∀ (j : Nat) (s : Sl), (ρ.set i .none)[j]? = some s → s ≠ .none → i ≠ j ∧ ρ[j]? = some s := fun j s q ns => by
    by_cases hj : i = j
    · subst hj
      have hl : i < ρ.length := by
        have := (List.getElem?_eq_some_iff.mp q).1
        rw [List.length_set] at this
        exact this
      rw [List.getElem?_set_self hl] at q
      cases q
      exact absurd rfl ns
    · rw [List.getElem?_set_ne hj] at q
      exact ⟨hj, q⟩
  refine ⟨by rw [List.length_set, List.length_set]; exact h.len, fun j e q => ?_, fun j ds q => ?_, fun j l a ds es q1 q2 q3 q4 => ?_⟩
  · obtain ⟨n, q⟩ := get j _ q (fun z => nomatch z)
    rw [List.getElem?_set_ne n]
    exact h.val j e q
  · obtain ⟨n, q⟩ := get j _ q (fun z => nomatch z)
    rw [List.getElem?_set_ne n]
    exact h.own j ds q
  · obtain ⟨n1, q1⟩ := get j _ q1 (fun z => nomatch z)
    obtain ⟨n2, q2⟩ := get l _ q2 (fun z => nomatch z)
    rw [List.getElem?_set_ne n1] at q3
    rw [List.getElem?_set_ne n2] at q4
    exact h.sep j l a ds es q1 q2 q3 q4
theorem EnvOk.wipe {ρ : Env} (h : EnvOk Y I H μ ρ σ) : ∀ vs : List Nat, EnvOk Y I H μ (EV.wipe ρ vs) (L2.wipe σ vs)
  | [] => h
  | v :: vs => (EnvOk.wipe h vs).clear
def gT (K : PySem.W.Frag) : Tg → TG
  | .one i => gName i
  | .many is => gTup K is.length (is.foldr (fun i g => gCons (gName i) g) gNil)
theorem pgs_of {X : Cx} {sc : Scope} (g : Gx Y k N sc X) : ∀ {is : List Nat} {es : List Expr}, chkNs N sc is es = true → PGs X es (is.foldr (fun i g => gCons (gName i) g) gNil) ∧ (assignEach es X.env).length = is.length ∧ (assignEach es X.env).findIdx? (·.1) = none
  | [], [], _ => ⟨pgs_nil, rfl, rfl⟩
  | [], _ :: _, h => by cases h
  | _ :: _, [], h => by cases h
  | i :: is, e :: es, h => by
    have h' : (chkNm N sc i e && chkNs N sc is es) = true := h
    rw [Bool.and_eq_true] at h'
    obtain ⟨h1, h2⟩ := h'
    unfold chkNm at h1
    split at h1
    · rename_i x p
      rw [Bool.and_eq_true] at h1
      obtain ⟨l1, l2⟩ := loc_of g h1.2
      obtain ⟨a, b, c⟩ := pgs_of g h2
      refine ⟨pgs_cons (pg_name (by rw [g.hN]; exact g.nd) (by rw [g.hN]; exact of_decide_eq_true h1.1) l1 l2) a rfl, ?_, ?_⟩
      · show (assignEach es X.env).length + 1 = is.length + 1
        rw [b]
      · show ((false, assign (.Name x p) X.env) :: assignEach es X.env).findIdx? (·.1) = none
        rw [List.findIdx?_cons]
        rw [c]
        rfl
    · cases h1
theorem pg_of {X : Cx} {sc : Scope} {q : It} {tg : Tg} {e : Expr} (g : Gx Y k N sc X) (h : chkT N q sc tg e = true) : PG X e (gT X.K tg) := by
  cases tg with
  | one i =>
    have h' : (kOne q && chkNm N sc i e) = true := h
    rw [Bool.and_eq_true] at h'
    have h1 := h'.2
    unfold chkNm at h1
    split at h1
    · rw [Bool.and_eq_true] at h1
      obtain ⟨l1, l2⟩ := loc_of g h1.2
      exact pg_name (by rw [g.hN]; exact g.nd) (by rw [g.hN]; exact of_decide_eq_true h1.1) l1 l2
    · cases h1
  | many is =>
    have h' : chkTs N sc is e = true := h
    unfold chkTs at h'
    split at h'
    · obtain ⟨a, b, c⟩ := pgs_of g h'
      exact pg_tup g.calm a b c
    · cases h'
theorem bindL_ok {Q : L2.St → Hp → Prop} : ∀ {is : List Nat} {ds : List D} {vs : List V} {ρ ρ' : Env} {σ : L2.St}, EnvOk Y I H μ ρ σ → Reps Y I μ ds vs → bindL is ds ρ = some ρ' → (∀ σ', EnvOk Y I H μ ρ' σ' → (∃ f : List (Nat × V), σ' = f.foldl (fun s p => s.set p.1 (some p.2)) σ ∧ f.map (·.1) = is) → Q σ' H) →
    is.foldr (fun i g => gCons (gName i) g) gNil vs σ H Q
  | [], [], vs, ρ, ρ', σ, en, r, e, k => by
    cases e
    exact ⟨r, k σ en ⟨[], rfl, rfl⟩⟩
  | [], _ :: _, _, _, _, _, _, _, e, _ => by cases e
  | _ :: _, [], _, _, _, _, _, _, e, _ => by cases e
  | i :: is, d :: ds, vs, ρ, ρ', σ, en, ⟨v, r, ev, h, t⟩, e, k => by
    subst ev
    exact ⟨v, r, rfl, bindL_ok (en.set (i := i) h) t e fun σ' en' ⟨f, ef, em⟩ => k σ' en' ⟨(i, v) :: f, ef, by rw [List.map_cons, em]⟩⟩
theorem bind_ok {tg : Tg} {d : D} {v : V} {ρ : Env} {K : PySem.W.Frag} {Q : L2.St → Hp → Prop} (w : Wd Y I H S μ) (en : EnvOk Y I H μ ρ σ) (r : Rep Y I μ d v) {ρ' : Env} (e : bindT tg d ρ S = .ok ρ' S')
    (k : ∀ σ', EnvOk Y I H μ ρ' σ' → (∃ f : List (Nat × V), σ' = f.foldl (fun s p => s.set p.1 (some p.2)) σ ∧ f.map (·.1) = idx tg) → Q σ' H) : gT K tg v σ H Q ∧ S' = S := by
  cases tg with
  | one i =>
    cases e
    exact ⟨k _ (en.set r) ⟨[(i, v)], rfl, rfl⟩, rfl⟩
  | many is =>
    cases d with
    | tup ds =>
      have e' : (match bindL is ds ρ with
        | some ρ' => (pure ρ' : M Env)
        | none => M.stuck) S = .ok ρ' S' := e
      cases eb : bindL is ds ρ with
      | none => rw [eb] at e'; cases e'
      | some ρ2 =>
        rw [eb] at e'
        cases e'
        obtain ⟨a, vs, rfl, h1, z, rs⟩ := r
        refine ⟨⟨a, vs, rfl, SqT.of (w.sub _ _ h1), ?_, bindL_ok en rs eb k⟩, rfl⟩
        have len : ∀ {is : List Nat} {ds : List D} {ρ ρ' : Env}, bindL is ds ρ = some ρ' → ds.length = is.length := by
          intro is
          induction is with
          | nil => intro ds ρ ρ' h; cases ds <;> first | rfl | cases h
          | cons i is ih =>
            intro ds ρ ρ' h
            cases ds with
            | nil => cases h
            | cons d ds => rw [List.length_cons, List.length_cons, ih h]
        rw [rs.length, len eb]
    | _ => cases e
theorem quiet_bindT (tg : Tg) (d : D) (ρ : Env) : Quiet (bindT tg d ρ) := by
  cases tg with
  | one i => exact .ret _
  | many is =>
    cases d with
    | tup ds =>
      show Quiet (match bindL is ds ρ with
        | some ρ' => (pure ρ' : M Env)
        | none => M.stuck)
      cases bindL is ds ρ
      · exact .no
      · exact .ret _
    | _ => exact .no
/-- a wipe forgets what was bound -/
theorem wipe_get (σ : L2.St) : ∀ (vs : List Nat) (j : Nat), (L2.wipe σ vs)[j]? = if j ∈ vs ∧ j < σ.length then some none else σ[j]?
  | [], j => by simp [L2.wipe]
  | v :: vs, j => by
    show ((L2.wipe σ vs).set v none)[j]? = _
    rw [List.getElem?_set]
    have hl := wipe_length σ vs
    by_cases e : v = j
    · subst e
      rw [if_pos rfl, hl]
      by_cases hv : v < σ.length
      · rw [if_pos hv, if_pos ⟨List.mem_cons_self, hv⟩]
      · rw [if_neg hv, if_neg (fun z => hv z.2), List.getElem?_eq_none (by omega)]
    · rw [if_neg e, wipe_get σ vs j]
      have : (j ∈ v :: vs ∧ j < σ.length) ↔ (j ∈ vs ∧ j < σ.length) := by
        constructor
        · rintro ⟨m, h⟩
          rcases List.mem_cons.mp m with q | q
          · exact absurd q.symm e
          · exact ⟨q, h⟩
        · rintro ⟨m, h⟩
          exact ⟨List.mem_cons_of_mem _ m, h⟩
      by_cases c : j ∈ vs ∧ j < σ.length
      · rw [if_pos c, if_pos (this.mpr c)]
      · rw [if_neg c, if_neg (fun z => c (this.mp z))]
theorem wipe_set (σ : L2.St) {vs : List Nat} {i : Nat} {v : Option V} (h : i ∈ vs) : L2.wipe (σ.set i v) vs = L2.wipe σ vs := by
  apply List.ext_getElem?
  intro j
  rw [wipe_get, wipe_get, List.length_set]
  by_cases c : j ∈ vs ∧ j < σ.length
  · rw [if_pos c, if_pos c]
  · rw [if_neg c, if_neg c]
    by_cases e : i = j
    · subst e
      have : ¬ i < σ.length := fun z => c ⟨h, z⟩
      rw [List.getElem?_eq_none (by rw [List.length_set]; omega), List.getElem?_eq_none (by omega)]
    · rw [List.getElem?_set_ne e]
theorem wipe_wipe (σ : L2.St) (vs : List Nat) : L2.wipe (L2.wipe σ vs) vs = L2.wipe σ vs := by
  apply List.ext_getElem?
  intro j
  rw [wipe_get, wipe_length]
  by_cases c : j ∈ vs ∧ j < σ.length
  · rw [if_pos c, wipe_get, if_pos c]
  · rw [if_neg c]
theorem wipe_binds (σ : L2.St) {vs : List Nat} : ∀ {f : List (Nat × V)}, (∀ p ∈ f, p.1 ∈ vs) → L2.wipe (f.foldl (fun s p => s.set p.1 (some p.2)) σ) vs = L2.wipe σ vs
  | [], _ => rfl
  | p :: f, h => by
    show L2.wipe (f.foldl (fun s p => s.set p.1 (some p.2)) (σ.set p.1 (some p.2))) vs = _
    rw [wipe_binds (σ.set p.1 (some p.2)) (fun q m => h q (List.mem_cons_of_mem _ m)), wipe_set σ (h p List.mem_cons_self)]
end
end EV

/-! EvComp3: comprehensions. -/
namespace EV
open PySem PySem.Spec PyProof.Rows L2
abbrev noW : WX := fun _ _ _ _ => False
theorem mono_PS {X : Cx} {s : Stmt} {t t' : TS} (h : PS X s t) (q : ∀ D σ H, t' D σ H → t D σ H) : PS X s t' := ⟨fun pins s σ H D I z => h.run pins s σ H D I (q D σ H z)⟩
theorem mono_PSs {X : Cx} {s : List Stmt} {t t' : TS} (h : PSs X s t) (q : ∀ D σ H, t' D σ H → t D σ H) : PSs X s t' := ⟨fun pins s σ H D I z => h.run pins s σ H D I (q D σ H z)⟩
section
variable {Y : Fix} {k : Nat} {N : List Str} {W : WX} {σ : L2.St} {I H H0 I' H' : Hp} {S S' : Sto} {μ μ' : List Addr}
theorem Aft.ofCalm {α : Type} {m : M α} {G : α → Hp → Hp → Sto → List Addr → Prop} {σ' : L2.St} (h : Aft Y W σ I H μ (M.calm m S) G) : Aft Y noW σ' I H μ (m S) G := by
  unfold M.calm at h
  cases e : m S with
  | ok a S' => rw [e] at h; exact h
  | exc c S' => rw [e] at h; exact h.elim
  | stuck => rw [e] at h; exact h.elim
/-- the block of a comprehension -/
theorem Gx.blk {X : Cx} {sc sc2 : Scope} (g : Gx Y k N sc X) (s : Shared) (H : Hp) (C : Addr) (cl : List (Str × Addr)) (fp : List Addr) : Gx Y k N sc2 (X.blk s H sc2 (compEnvC sc2 cl C X.env) fp) where
  hK := g.hK
  hm := g.hm
  hN := g.hN
  nd := g.nd
  hs := ScOk.relabel sc2 X.env
  calm := g.calm
  room := g.room
  fn := fun x e => by
    show (sc2.names.lookup x == some .cell) = true
    rw [e] <;> rfl
  free := g.free
  glo := g.glo
  defs := g.defs
theorem own_snd (N : List Str) (own : List Nat) : (ownOf N own).map (·.2) = own := by
  unfold ownOf
  rw [List.map_map]
  exact List.map_id own
theorem ext_put {I1 H1 I' Hc : Hp} {μ1 μ' : List Addr} {B : Addr} {o : HO} (x : Ext I1 H1 μ1 I' Hc μ') (hD : H1 B = none) : Ext I1 H1 μ1 I' (upd Hc B o) μ' := by
  refine ⟨x.sub, x.mu, x.new, fun a u e n => ?_, fun a u e => ?_, x.fresh⟩
  · rw [upd_ne (ne_of_none e hD)]
    exact x.keep a u e n
  · by_cases z : a = B
    · subst z; exact ⟨o, upd_same⟩
    · rw [upd_ne z]; exact x.there a u e
theorem wd_put {I' Hc : Hp} {μ' : List Addr} {B : Addr} {o : HO} (w : Wd Y I' Hc S μ') (hI : I' B = none) (hm : B ∉ μ') : Wd Y I' (upd Hc B o) S μ' := by
  refine w.mono (Same.refl _) (fun b u e => ?_) (fun a _ => rfl) (fun a m => upd_ne fun z => hm (z ▸ m))
  by_cases z : b = B
  · subst z; rw [hI] at e; cases e
  · rw [upd_ne z]; exact w.sub b u e
theorem ext_own {I' Hc I2 H2 : Hp} {μ' μ2 : List Addr} {B : Addr} {o : HO} (x : Ext I' Hc μ' I2 H2 μ2) (hH : Hc B = some o) (hI : I' B = none) (hm : B ∉ μ') : H2 B = some o ∧ I2 B = none ∧ B ∉ μ2 := by
  refine ⟨x.keep _ _ hH hm, ?_, fun m => ?_⟩
  · cases z : I2 B with
    | none => rfl
    | some u =>
      rcases x.new B u z with y | y
      · rw [hI] at y; cases y
      · rw [hH] at y; cases y
  · rcases x.fresh B m with y | y
    · exact hm y
    · rw [hH] at y; cases y
theorem quiet_still : ∀ as bs : List D, Quiet (still as bs)
  | [], _ => by unfold still; exact .ret _
  | a :: as, [] => by cases a <;> exact .ret _
  | a :: as, b :: bs => by
    have ih := quiet_still as bs
    cases a with
    | cell n =>
      cases b with
      | lst es =>
        intro S
        show (match S[n]? with
          | some (.lst fs) => if sames es fs = true then still as bs S else .stuck
          | _ => .stuck) = .stuck ∨ ∃ a, (match S[n]? with
          | some (.lst fs) => if sames es fs = true then still as bs S else .stuck
          | _ => .stuck) = .ok a S
        split
        · split
          · exact ih S
          · exact .inl rfl
        · exact .inl rfl
      | _ => exact ih
    | _ => exact ih
theorem turns_cons {ck : M Unit} {tg : Tg} {fc : Env → M Bool} {fe : Env → M D} {ρ : Env} {d : D} {ds : List D} :
    turns ck tg fc fe ρ (d :: ds) = (ck >>= fun _ => bindT tg d ρ >>= fun ρ' => fc ρ' >>= fun b => if b = true then (fe ρ' >>= fun y => turns ck tg fc fe ρ ds >>= fun ys => pure (y :: ys)) else turns ck tg fc fe ρ ds) := rfl
theorem turns_nil {ck : M Unit} {tg : Tg} {fc : Env → M Bool} {fe : Env → M D} {ρ : Env} : turns ck tg fc fe ρ [] = (ck >>= fun _ => pure []) := rfl
def fcE (Y : Fix) (k : Nat) (c : ME) (ρ : Env) : M Bool := M.calm (condM c (via ρ c (evE (cl Y k) c ρ)))
def feE (Y : Fix) (k : Nat) (el : ME) (ρ : Env) : M D := M.calm (evE (cl Y k) el ρ)
theorem comp_red {X : Cx} {sc : Scope} {q : It} {es : ME} {tg : Tg} {c el : ME} {own : List Nat} {tt : TT} (g : Gx Y k N sc X)
    (hown : ∀ i ∈ idx tg, i ∈ own)
    (htt : ∀ (σ : L2.St) (H I : Hp) (S : Sto) (μ : List Addr) (ρ : Env) (Q : Bool → Hp → Prop), Wd Y I H S μ → EnvOk Y I H μ ρ σ → Aft Y noW σ I H μ (fcE Y k c ρ S) (fun b _ H' _ _ => Q b H') → tt σ H Q) :
    ∀ (σ : L2.St) (H : Hp) (Q : VK), tF Y k W (.comp q es tg c el own) σ H Q → tLc (tI Y k W true q es) (gT X.K tg) tt (tE Y k noW el) ((ownOf N own).map (·.2)) σ H Q := by
  rintro σ H Q ⟨I, S, μ, ρ, w, en, q0⟩
  rw [own_snd]
  have ev : evE (cl Y k) (.comp q es tg c el own) ρ = (evI (cl Y k) true q es ρ >>= fun z => turns (still z.1 z.2.1) tg (fcE Y k c) (feE Y k el) (EV.wipe ρ own) z.2.2 >>= fun ys => pure (D.lst ys)) := by
    show (evV (cl Y k) es ρ >>= fun as => EV.viewAll as >>= fun bs => walk q bs >>= fun ds => turns (still as bs) tg (fcE Y k c) (feE Y k el) (EV.wipe ρ own) ds >>= fun ys => pure (D.lst ys)) =
      ((evV (cl Y k) es ρ >>= fun as => EV.viewAll as >>= fun bs => walk q bs >>= fun ds => pure (as, bs, ds)) >>= fun z => turns (still z.1 z.2.1) tg (fcE Y k c) (feE Y k el) (EV.wipe ρ own) z.2.2 >>= fun ys => pure (D.lst ys))
    simp only [bind_assoc, pure_bind]
  rw [ev] at q0
  refine ⟨I, S, μ, ρ, w, en, (Aft.bind q0).mono fun z I1 H1 S1 μ1 x1 w1 q1 J wk B hD => ?_⟩
  obtain ⟨as, bs, ds⟩ := z
  obtain ⟨zl, wk⟩ := wk
  dsimp only at q1 wk zl
  have en1 := en.ext x1
  generalize hck : still as bs = ck at q1 wk
  have hD0 : H B = none := x1.free hD
  have nD1 : I1 B = none := Same.free w1.sub hD
  have nDm : B ∉ μ1 := w1.fresh hD
  refine ⟨fun i m Hc => ∃ I' S' μ' acc vs, m = ds.length - i ∧ i ≤ ds.length ∧ Ext I1 H1 μ1 I' Hc μ' ∧ Wd Y I' Hc S' μ' ∧ Hc B = some (.lst vs) ∧ I' B = none ∧ B ∉ μ' ∧ Reps Y I' μ' acc vs ∧ acc.length ≤ i ∧
    Aft Y W σ I1 H1 μ1 ((turns ck tg (fcE Y k c) (feE Y k el) (EV.wipe ρ own) (ds.drop i) >>= fun ys => (pure (D.lst (acc ++ ys)) : M D)) S') (Gf Y H Q), ?_, ?_⟩
  · exact ⟨_, I1, S1, μ1, [], [], rfl, Nat.zero_le _, ext_put Ext.refl hD, wd_put w1 nD1 nDm, upd_same, nD1, nDm, Reps.nil, Nat.le_refl _, q1⟩
  rintro i m Hc ⟨I', S', μ', acc, vs, em, hi', x', w', eD, iD, mD, rs, la, qr⟩
  have later : ck S' ≠ .stuck → Later Y true I1 H1 μ1 I' Hc S' μ' ck := fun hs => ⟨x'.sub, x'.mu, w', hs, fun _ a o e n1 n2 => x'.keep a o e n2⟩
  have quiet : Quiet ck := by
    rw [← hck]
    exact quiet_still as bs
  by_cases hlt : i < ds.length
  · have hdr : ds.drop i = ds[i] :: ds.drop (i + 1) := List.drop_eq_getElem_cons hlt
    rw [hdr, turns_cons] at qr
    simp only [bind_assoc] at qr
    rcases quiet S' with e0 | ⟨u, e0⟩
    · rw [bnd_stuck e0] at qr; exact qr.elim
    rw [bnd_at e0] at qr
    have lt := later (by rw [e0]; exact fun z => nomatch z)
    obtain ⟨go, yl⟩ := (wk I' Hc S' μ' lt i).2 ds[i] (List.getElem?_eq_getElem hlt)
    refine .inr ⟨go, fun Hn => ∃ I2 S2 μ2 acc2 vs2, Ext I1 H1 μ1 I2 Hn μ2 ∧ Wd Y I2 Hn S2 μ2 ∧ Hn B = some (.lst vs2) ∧ I2 B = none ∧ B ∉ μ2 ∧ Reps Y I2 μ2 acc2 vs2 ∧ acc2.length ≤ i + 1 ∧
      Aft Y W σ I1 H1 μ1 ((turns ck tg (fcE Y k c) (feE Y k el) (EV.wipe ρ own) (ds.drop (i + 1)) >>= fun ys => (pure (D.lst (acc2 ++ ys)) : M D)) S2) (Gf Y H Q), ?_, ?_⟩
    · rintro Hn ⟨I2, S2, μ2, acc2, vs2, y1, y2, y3, y4, y5, y6, y7, y8⟩
      exact ⟨ds.length - (i + 1), by omega, I2, S2, μ2, acc2, vs2, rfl, hlt, y1, y2, y3, y4, y5, y6, y7, y8⟩
    · intro x H2 hy
      obtain ⟨I2, x2, w2, rx⟩ := yl x H2 hy
      obtain ⟨eD2, iD2, mD2⟩ := ext_own x2 eD iD mD
      have enw : EnvOk Y I2 H2 μ' (EV.wipe ρ own) (L2.wipe σ own) := ((en1.ext x').ext x2).wipe own
      rcases quiet_bindT tg ds[i] (EV.wipe ρ own) S' with e1 | ⟨ρ2, e1⟩
      · rw [bnd_stuck e1] at qr; exact qr.elim
      rw [bnd_at e1] at qr
      refine (bind_ok w2 enw rx e1 fun σ2 en2 ⟨f, ef, ei⟩ => ⟨?_, ?_⟩).1
      · rw [ef, wipe_binds _ (fun p m => hown _ (by rw [← ei]; exact List.mem_map_of_mem m)), wipe_wipe]
      · refine htt σ2 H2 I2 S' μ' ρ2 _ w2 en2 ?_
        cases e2 : fcE Y k c ρ2 S' with
        | stuck => rw [bnd_stuck e2] at qr; exact qr.elim
        | exc cc S3 =>
          unfold fcE M.calm at e2
          split at e2
          · cases e2
          · rename_i h
            exact absurd e2 (by intro z; exact h _ _ z)
        | ok b S3 =>
          rw [bnd_at e2] at qr
          intro I3 H3 μ3 x3 w3
          obtain ⟨eD3, iD3, mD3⟩ := ext_own x3 eD2 iD2 mD2
          have xx3 := (x'.trans x2).trans x3
          cases b with
          | false =>
            rw [if_neg Bool.false_ne_true]
            have qr' : Aft Y W σ I1 H1 μ1 ((turns ck tg (fcE Y k c) (feE Y k el) (EV.wipe ρ own) (ds.drop (i + 1)) >>= fun ys => (pure (D.lst (acc ++ ys)) : M D)) S3) (Gf Y H Q) := qr
            exact ⟨I3, S3, μ3, acc, vs, xx3, w3, eD3, iD3, mD3, rs.mono (x2.sub.trans x3.sub) (x2.mu.trans x3.mu), by omega, qr'⟩
          | true =>
            rw [if_pos rfl]
            have qr' : Aft Y W σ I1 H1 μ1 (((feE Y k el ρ2 >>= fun y => turns ck tg (fcE Y k c) (feE Y k el) (EV.wipe ρ own) (ds.drop (i + 1)) >>= fun ys => (pure (y :: ys) : M (List D))) >>= fun ys => (pure (D.lst (acc ++ ys)) : M D)) S3) (Gf Y H Q) := qr
            simp only [bind_assoc, pure_bind] at qr'
            refine ⟨I3, S3, μ3, ρ2, w3, en2.ext x3, ?_⟩
            cases e4 : evE (cl Y k) el ρ2 S3 with
            | stuck =>
              have e5 : feE Y k el ρ2 S3 = .stuck := by unfold feE M.calm; rw [e4]
              rw [bnd_stuck e5] at qr'
              exact qr'.elim
            | exc cc S4 =>
              have e5 : feE Y k el ρ2 S3 = .stuck := by unfold feE M.calm; rw [e4]
              rw [bnd_stuck e5] at qr'
              exact qr'.elim
            | ok y S4 =>
              have e5 : feE Y k el ρ2 S3 = .ok y S4 := by unfold feE M.calm; rw [e4]
              rw [bnd_at e5] at qr'
              intro I4 H4 μ4 x4 w4 v rv
              obtain ⟨eD4, iD4, mD4⟩ := ext_own x4 eD3 iD3 mD3
              have lv := rs.length
              refine ⟨vs, eD4, by rw [lv]; omega, I4, S4, μ4, acc ++ [y], vs ++ [v], ext_put (xx3.trans x4) hD, wd_put w4 iD4 mD4, upd_same, iD4, mD4, ?_, ?_, ?_⟩
              · exact (rs.mono ((x2.sub.trans x3.sub).trans x4.sub) ((x2.mu.trans x3.mu).trans x4.mu)).append (Reps.cons rv Reps.nil)
              · rw [List.length_append]
                show acc.length + 1 ≤ i + 1
                omega
              · have e6 : (fun ys => (pure (.lst ((acc ++ [y]) ++ ys)) : M D)) = fun ys => (pure (D.lst (acc ++ (y :: ys))) : M D) := by
                  funext ys
                  rw [List.append_assoc]
                  rfl
                rw [e6]
                exact qr'
  · have ei : i = ds.length := by omega
    subst ei
    rw [List.drop_length, turns_nil] at qr
    simp only [bind_assoc, pure_bind] at qr
    rcases quiet S' with e0 | ⟨u, e0⟩
    · rw [bnd_stuck e0] at qr; exact qr.elim
    rw [bnd_at e0] at qr
    have lt := later (by rw [e0]; exact fun z => nomatch z)
    refine .inl ⟨(wk I' Hc S' μ' lt ds.length).1 (Nat.le_refl _), ?_⟩
    rw [List.append_nil] at qr
    exact qr I' Hc μ' x' w' B vs eD iD mD hD0 (Nat.le_trans la zl) rs
theorem s_comp {X : Cx} {sc sc2 : Scope} {q : It} {es : ME} {tg : Tg} {c el : ME} {own : List Nat} {t iter elt : Expr} {ifs : List Expr} {pos : Pos} {tt : TT} (g : Gx Y k N sc X) (hb : L2.blkC N sc sc2 (ownOf N own) = true) (hT : chkT N q sc2 tg t = true)
    (hown : ∀ i ∈ idx tg, i ∈ own) (hi : PI X t iter (tI Y k W true q es)) (he : ∀ X', Gx Y k N sc2 X' → PE X' elt (tE Y k noW el)) (hpt : ∀ X', Gx Y k N sc2 X' → PTs X' ifs tt)
    (htt : ∀ (σ : L2.St) (H I : Hp) (S : Sto) (μ : List Addr) (ρ : Env) (Q : Bool → Hp → Prop), Wd Y I H S μ → EnvOk Y I H μ ρ σ → Aft Y noW σ I H μ (fcE Y k c ρ S) (fun b _ H' _ _ => Q b H') → tt σ H Q)
    (hf : ∀ x, foldedSetIterable iter X.env x = pure x) :
    PE X (.ListComp elt [⟨t, iter, ifs, 0⟩] sc2 pos) (tF Y k W (.comp q es tg c el own)) ∧
    ∀ (i : Nat) (y : Str) (py spos : Pos), X.N[i]? = some y → X.env.scope.names.lookup y = some .local → swapsWith (.ListComp elt [⟨t, iter, ifs, 0⟩] sc2 pos) (some (.Name y py)) spos.line X.env = pure true →
      PS X (.Assign [.Name y py] (.ListComp elt [⟨t, iter, ifs, 0⟩] sc2 pos) spos) (tAsg (tF Y k W (.comp q es tg c el own)) (gName i)) := by
  have ok : L2.BlkOk X.N X.env.scope sc2 (ownOf N own) := by
    rw [g.hN]
    exact blk_of g (blkOk_by hb)
  have h1 : ∀ (s : Shared) (H : Hp) (C : Addr) (cl : List (Str × Addr)) (fp : List Addr), PG (X.blk s H sc2 (compEnvC sc2 cl C X.env) fp) t (gT X.K tg) := fun s H C cl fp => pg_of (X := X.blk s H sc2 (compEnvC sc2 cl C X.env) fp) (g.blk s H C cl fp) hT
  have nd : X.N.Nodup := by rw [g.hN]; exact g.nd
  refine ⟨mono_PE (pe_lc (g := gT X.K tg) (tt := tt) (te := tE Y k noW el) g.calm nd hi ok h1 (fun s H C cl fp => hpt _ (g.blk s H C cl fp)) (fun s H C cl fp => he _ (g.blk s H C cl fp)) hf) (comp_red g hown htt), fun i y py spos hy hyl hsw => ?_⟩
  exact mono_PS (ps_setLc (g := gT X.K tg) (tt := tt) (te := tE Y k noW el) g.calm nd hy hyl hsw hi ok h1 (fun s H C cl fp => hpt _ (g.blk s H C cl fp)) (fun s H C cl fp => he _ (g.blk s H C cl fp)) hf) fun D σ H z => comp_red g hown htt σ H _ z
end
end EV

/-! EvMain: what the check lets through is read right. -/
namespace EV
open PySem PySem.Spec PyProof.Rows L2
section
variable {Y : Fix} {k : Nat} {N : List Str} {W : WX} {σ : L2.St} {I H H0 I' H' : Hp} {S S' : Sto} {μ μ' : List Addr}
/-- expressions that make a list anew -/
def frs : ME → Bool
  | .lst _ => true
  | .bin _ _ _ => true
  | .sl _ _ _ => true
  | .blt _ _ => true
  | .comp _ _ _ _ _ _ => true
  | _ => false
theorem pt_ifExp {X : Cx} {c a b : Expr} {tc ta tb : TT} {pos : Pos} (hc : PT X c tc) (ha : PT X a ta) (hb : PT X b tb) : PT X (.IfExp c a b pos) (fun σ H Q => tc σ H fun t H1 => if t = true then ta σ H1 Q else tb σ H1 Q) := by
  refine ⟨fun pins s σ H Q I h => ?_⟩
  show wpAny _ _ (do if ← isTrue c X.env (eval c X.env) then isTrue a X.env (eval a X.env) else isTrue b X.env (eval b X.env)) _ _ _
  refine wpAny_bind (thn (hc.run pins s σ H _ I h) fun t s1 ⟨H1, I1, q1⟩ => ?_)
  cases t with
  | true => exact ha.run pins s1 σ H1 Q I1 q1
  | false => exact hb.run pins s1 σ H1 Q I1 q1
theorem ite_T {l m n : ME} {ρ : Env} {G : Bool → Hp → Hp → Sto → List Addr → Prop} (h : Aft Y W σ I H μ (evT (cl Y k) (.ite l m n) ρ S) G) :
    Aft Y W σ I H μ (evT (cl Y k) l ρ S) fun t I' H' S' μ' => if t = true then Aft Y W σ I' H' μ' (evT (cl Y k) m ρ S') G else Aft Y W σ I' H' μ' (evT (cl Y k) n ρ S') G := by
  have e : evT (cl Y k) (.ite l m n) ρ = (evT (cl Y k) l ρ >>= fun t => if t then (evE (cl Y k) m ρ >>= fun x => view x >>= fun x => truth x) else (evE (cl Y k) n ρ >>= fun x => view x >>= fun x => truth x)) := by
    show ((via ρ l (evE (cl Y k) l ρ) >>= fun x => view x >>= fun x => truth x >>= fun t => if t then evE (cl Y k) m ρ else evE (cl Y k) n ρ) >>= fun x => view x >>= fun x => truth x) = (via ρ l (evE (cl Y k) l ρ) >>= fun x => view x >>= fun x => truth x) >>= _
    simp only [bind_assoc]
    congr 1; funext x; congr 1; funext x; congr 1; funext t
    cases t <;> rfl
  rw [e] at h
  refine (Aft.bind h).mono fun t I1 H1 S1 μ1 x1 w1 q => ?_
  cases t with
  | true => exact evT_snd q
  | false => exact evT_snd q
/-- what is shown of each expression, each list of arguments -/
structure SndE (Y : Fix) (k : Nat) (N : List Str) (m : ME) : Prop where
  run : ∀ (X : Cx) (sc : Scope) (e : Expr) (W : WX), Gx Y k N sc X → Takes X W → chkE (names Y) N m sc e = true →
    (frs m = true → PE X e (tF Y k W m)) ∧ PE X e (tE Y k W m) ∧ PE X e (tV Y k W m) ∧ PT X e (tT Y k W m) ∧ (∀ op xs pos, e = .BoolOp op xs pos → PW X e (tT Y k W m))
structure SndA (Y : Fix) (k : Nat) (N : List Str) (m : ME) : Prop where
  run : ∀ (X : Cx) (sc : Scope) (es : List Expr) (W : WX), Gx Y k N sc X → Takes X W → chkA (names Y) N m sc es = true →
    PA X es (tA Y k W m) ∧ PA X es (tAV Y k W m) ∧ (∀ e ∈ es, notStar e = true) ∧ (es = [] ↔ m = .anil)
  hd : ∀ a as, m = .acons a as → SndE Y k N a
theorem noA {m : ME} (h : ∀ sc es, chkA (names Y) N m sc es = false) (h2 : ∀ a as, m ≠ .acons a as) : SndA Y k N m := ⟨fun X sc es W g tk c => absurd ((h sc es).symm.trans c) Bool.false_ne_true, fun a as e => absurd e (h2 a as)⟩
theorem noE {m : ME} (h : ∀ sc es, chkE (names Y) N m sc es = false) : SndE Y k N m := ⟨fun X sc es W g tk c => by rw [h] at c; cases c⟩
/-- by the value alone -/
theorem byE {X : Cx} {e : Expr} {m : ME} (hK : X.K = Y.K) (hm : ∀ i, m ≠ .var i) (h : PE X e (tE Y k W m)) (he : ∀ whole, isTrue e X.env whole = (do let v ← whole; standAt e.pos; holding [v] (truthy v))) (hb : ∀ op xs pos, e ≠ .BoolOp op xs pos) :
    PE X e (tE Y k W m) ∧ PE X e (tV Y k W m) ∧ PT X e (tT Y k W m) ∧ (∀ op xs pos, e = .BoolOp op xs pos → PW X e (tT Y k W m)) :=
  ⟨h, tV_of hm h, tT_of hK (tV_of hm h) he, fun op xs pos z => absurd z (hb op xs pos)⟩
theorem takes_blk {X : Cx} : Takes X noW := fun u s' ⟨_, _, _, _, _, _, _, _, _, _, _, _, _, _, _, _, w⟩ => w.elim
theorem and4 {a b c d : Bool} (h : (a && b && c && d) = true) : a = true ∧ b = true ∧ c = true ∧ d = true := by
  simp only [Bool.and_eq_true] at h
  exact ⟨h.1.1.1, h.1.1.2, h.1.2, h.2⟩
theorem and3 {a b c : Bool} (h : (a && b && c) = true) : a = true ∧ b = true ∧ c = true := by
  simp only [Bool.and_eq_true] at h
  exact ⟨h.1.1, h.1.2, h.2⟩
theorem and2 {a b : Bool} (h : (a && b) = true) : a = true ∧ b = true := by
  simp only [Bool.and_eq_true] at h
  exact h
theorem not_f {b : Bool} (h : (!b) = true) : b = false := by cases b <;> first | rfl | cases h
theorem s_isi {X : Cx} {sc : Scope} {y : Expr} {a : ME} {ty : Ty} {p p2 pos : Pos} (g : Gx Y k N sc X) (g1 : glB sc "isinstance" = true) (g2 : glB sc (tname ty) = true) (hs : notStar y = true) (h : PE X y (tE Y k W a)) :
    PE X (.Call (.Name "isinstance" p) [y, .Name (tname ty) p2] [] pos) (tE Y k W (.isi a ty)) := by
  obtain ⟨v1, _, _⟩ := gl_of g1 g.hs
  obtain ⟨v2, v3, v4⟩ := gl_of g2 g.hs
  obtain ⟨n, hn, hb⟩ : ∃ n, (match ty with | .int => n = "int" | .bool => n = "bool" | .tuple => n = "tuple" | .str => n = "str") ∧ bootBuiltins (tname ty) = some (.type n) := by
    cases ty
    · exact ⟨_, rfl, by decide +kernel⟩
    · exact ⟨_, rfl, by decide +kernel⟩
    · exact ⟨_, rfl, by decide +kernel⟩
    · exact ⟨_, rfl, by decide +kernel⟩
  have fr : X.mg (tname ty) = none := g.free _ (by cases ty <;> decide)
  have pt : PE X (.Name (tname ty) p2) (tC (.ty n)) := pe_bltn v2 fr hb rfl v4 v3
  refine mono_PE (pe_callB call_isi v1 (g.free _ (by decide)) (by decide +kernel) (pa_cons h (pa_cons pt pa_nil rfl) (star_cons hs)) (by decide) (by decide) (star_cons hs) (star_any fun x m => by
    have e : x = .Name (tname ty) p2 := by simpa using m
    subst e; rfl)) fun σ H Q ⟨I, S, μ, ρ, w, en, q⟩ => ?_
  have q' : Aft Y W σ I H μ ((evE (cl Y k) a ρ >>= fun x => isTy ty x >>= fun b => pure (D.bl b)) S) (Gv Y Q) := q
  refine ⟨I, S, μ, ρ, w, en, (Aft.bind q').mono fun d I1 H1 S1 μ1 x1 w1 q1 v r => ?_⟩
  obtain ⟨t, b, n', tx, en', kb, q2⟩ := isTy_ok w1 r (Aft.bind q1)
  have e : n' = n := by
    cases ty <;> exact en'.trans hn.symm
  subst e
  show rIsi X.K _ _ _
  rw [g.hK]
  exact ⟨v, _, _, _, b, rfl, .ty _, tx, kit_ty kb, q2.ret w1 _ rfl⟩

theorem sA_cons {a as : ME} (h1 : SndE Y k N a) (h2 : SndA Y k N as) : SndA Y k N (.acons a as) := ⟨fun X sc es W g tk c => by
  cases es with
  | nil => cases c
  | cons e r =>
    obtain ⟨c1, c2, c3⟩ := and3 (show (notStar e && chkE (names Y) N a sc e && chkA (names Y) N as sc r) = true from c)
    obtain ⟨_, p1, p2, _, _⟩ := h1.run X sc e W g tk c2
    obtain ⟨r1, r2, r3, _⟩ := h2.run X sc r W g tk c3
    refine ⟨s_cons c1 p1 r1, s_consV c1 p2 r2, fun x m => ?_, Iff.intro (fun z => nomatch z) (fun z => nomatch z)⟩
    rcases List.mem_cons.mp m with e | m
    · rw [e]; exact c1
    · exact r3 x m, fun b bs e => by cases e; exact h1⟩
theorem anil_of {m : ME} {sc : Scope} {es : List Expr} (h : chkA (names Y) N m sc es = true) : (es = [] ∧ m = .anil) ∨ ∃ e r a as, es = e :: r ∧ m = .acons a as ∧ notStar e = true ∧ chkE (names Y) N a sc e = true ∧ chkA (names Y) N as sc r = true := by
  cases m with
  | anil =>
    cases es with
    | nil => exact .inl ⟨rfl, rfl⟩
    | cons e r => cases h
  | acons a as =>
    cases es with
    | nil => cases h
    | cons e r =>
      obtain ⟨c1, c2, c3⟩ := and3 (show (notStar e && chkE (names Y) N a sc e && chkA (names Y) N as sc r) = true from h)
      exact .inr ⟨e, r, a, as, rfl, rfl, c1, c2, c3⟩
  | _ => cases h
theorem s_iter {X : Cx} {sc : Scope} {q : It} {es : ME} {t iter : Expr} {as : List Expr} (g : Gx Y k N sc X) (tk : Takes X W) (h : SndA Y k N es) (own : Bool) (hi : iterArgs sc q iter = some as) (hc : chkA (names Y) N es sc as = true) (ht : kOne q = false → ∃ es k p, t = .Tuple es k p) : PI X t iter (tI Y k W own q es) := by
  obtain ⟨r1, r2, r3, r4⟩ := h.run X sc as W g tk hc
  have ro := tO_of (own := own) r1 r2
  cases q with
  | seq =>
    have e : as = [iter] := (Option.some.inj hi).symm
    subst e
    rcases anil_of hc with ⟨e, _⟩ | ⟨e, r, a, as, e1, e2, c1, c2, c3⟩
    · cases e
    · cases e1
      subst e2
      rcases anil_of c3 with ⟨_, e⟩ | ⟨e, r, a, as, e1, _⟩
      · subst e
        obtain ⟨_, p1, p2, _, _⟩ := (h.hd _ _ rfl).run X sc iter W g tk c2
        exact s_seq g.hK (tOE_of p1 p2)
      · cases e1
  | range1 =>
    have hi' := hi
    unfold iterArgs at hi'
    dsimp only at hi'
    split at hi'
    · split at hi'
      · rename_i hx
        obtain ⟨rfl, hx⟩ := hx
        cases hi'
        exact s_range1 g hx (r3 _ List.mem_cons_self) ro
      · cases hi'
    · cases hi'
  | range2 =>
    have hi' := hi
    unfold iterArgs at hi'
    dsimp only at hi'
    split at hi'
    · split at hi'
      · rename_i hx
        obtain ⟨rfl, hx⟩ := hx
        cases hi'
        exact s_range2 g hx r3 ro
      · cases hi'
    · cases hi'
  | enum =>
    have hi' := hi
    unfold iterArgs at hi'
    dsimp only at hi'
    obtain ⟨te, tk', tp, rfl⟩ := ht rfl
    split at hi'
    · split at hi'
      · rename_i hx
        obtain ⟨rfl, hx⟩ := hx
        cases hi'
        exact s_enum g hx (r3 _ List.mem_cons_self) ro
      · cases hi'
    · cases hi'
  | zip =>
    have hi' := hi
    unfold iterArgs at hi'
    dsimp only at hi'
    obtain ⟨te, tk', tp, rfl⟩ := ht rfl
    split at hi'
    · split at hi'
      · rename_i hx
        obtain ⟨rfl, hx⟩ := hx
        cases hi'
        exact s_zip g hx r3 ro
      · cases hi'
    · cases hi'
theorem tup_of {q : It} {sc : Scope} {tg : Tg} {t : Expr} (h : chkT N q sc tg t = true) (hq : kOne q = false) : ∃ es k p, t = .Tuple es k p := by
  cases tg with
  | one i =>
    have h' : (kOne q && chkNm N sc i t) = true := h
    rw [hq] at h'
    cases h'
  | many is =>
    have h' : chkTs N sc is t = true := h
    unfold chkTs at h'
    split at h'
    · exact ⟨_, _, _, rfl⟩
    · cases h'
theorem folded_of {q : It} {sc : Scope} {iter : Expr} {as : List Expr} {es : ME} (hi : iterArgs sc q iter = some as) (hc : chkA (names Y) N es sc as = true) (env : PySem.Env) (x : Value) : foldedSetIterable iter env x = pure x := by
  cases iter with
  | Set a b c =>
    cases q with
    | seq =>
      have e : as = [.Set a b c] := (Option.some.inj hi).symm
      subst e
      rcases anil_of hc with ⟨e, _⟩ | ⟨e, r, m, ms, e1, e2, c1, c2, c3⟩
      · cases e
      · cases e1
        cases m <;> first | cases c2
    | _ => cases hi
  | _ => rfl
theorem opt_of {X : Cx} {sc : Scope} {m : ME} {e : Option Expr} (g : Gx Y k N sc X) (tk : Takes X W) (h : SndE Y k N m) (c : (match (generalizing := false) m, e with
      | .nothing, none => true
      | .nothing, _ => false
      | m, some e => chkE (names Y) N m sc e
      | _, none => false) = true) : match (generalizing := false) m, e with
    | .nothing, none => True
    | .nothing, _ => False
    | m, some e => PE X e (tE Y k W m)
    | _, none => False := by
  cases e with
  | none => cases m <;> first | trivial | cases c
  | some e => cases m <;> first | exact (h.run X sc e W g tk c).2.1 | cases c

/-- a comprehension's tests -/
theorem s_test {X : Cx} {sc : Scope} {c : ME} {ifs : List Expr} (g : Gx Y k N sc X) (h : SndE Y k N c) (hc : (match (generalizing := false) c, ifs with
      | .nothing, [] => true
      | .nothing, _ => false
      | c, [x] => chkE (names Y) N c sc x
      | _, _ => false) = true) : PTs X ifs (fun σ H Q => ∃ I S μ ρ, Wd Y I H S μ ∧ EnvOk Y I H μ ρ σ ∧ Aft Y noW σ I H μ (fcE Y k c ρ S) (fun b _ H' _ _ => Q b H')) := by
  by_cases hn : c = .nothing
  · subst hn
    cases ifs with
    | cons x r => cases hc
    | nil =>
      refine ⟨fun pins s σ H Q I ⟨I', S, μ, ρ, w, en, q⟩ => ?_⟩
      exact pts_nil.run pins s σ H Q I ((Aft.ofCalm (σ' := σ) q).ret w)
  · have ev : ∀ ρ, condM c (via ρ c (evE (cl Y k) c ρ)) = evT (cl Y k) c ρ := fun ρ => by
      cases c <;> first | rfl | exact absurd rfl hn
    have one : ∃ x, ifs = [x] ∧ chkE (names Y) N c sc x = true := by
      cases ifs with
      | nil => cases c <;> first | exact absurd rfl hn | cases hc
      | cons x r =>
        cases r with
        | nil => exact ⟨x, rfl, by cases c <;> first | exact absurd rfl hn | exact hc⟩
        | cons _ _ => cases c <;> first | exact absurd rfl hn | cases hc
    obtain ⟨x, rfl, cx⟩ := one
    obtain ⟨_, _, _, pt, _⟩ := h.run X sc x noW g takes_blk cx
    refine ⟨fun pins s σ H Q I ⟨I', S, μ, ρ, w, en, q⟩ => ?_⟩
    refine (pts_one pt).run pins s σ H Q I ⟨I', S, μ, ρ, w, en, ?_⟩
    have q' : Aft Y noW σ I' H μ (condM c (via ρ c (evE (cl Y k) c ρ)) S) (fun b _ H' _ _ => Q b H') := q.ofCalm
    rw [ev] at q'
    exact q'
theorem comp_parts {X : Cx} {sc sc2 : Scope} {q : It} {es : ME} {tg : Tg} {cc el : ME} {own : List Nat} {t iter elt : Expr} {ifs : List Expr} {as : List Expr} {pos : Pos} (g : Gx Y k N sc X) (tk : Takes X W) (c1 : L2.blkC N sc sc2 (ownOf N own) = true) (c2 : chkT N q sc2 tg t = true)
    (c4 : (idx tg).all (fun i => own.contains i) = true) (hi : iterArgs sc q iter = some as) (c3 : chkA (names Y) N es sc as = true) (c5 : chkE (names Y) N el sc2 elt = true) (c6 : (match (generalizing := false) cc, ifs with
      | .nothing, [] => true
      | .nothing, _ => false
      | c, [x] => chkE (names Y) N c sc2 x
      | _, _ => false) = true) (hes : SndA Y k N es) (hcc : SndE Y k N cc) (hel : SndE Y k N el) :
    PE X (.ListComp elt [⟨t, iter, ifs, 0⟩] sc2 pos) (tF Y k W (.comp q es tg cc el own)) ∧
    ∀ (i : Nat) (y : Str) (py spos : Pos), X.N[i]? = some y → X.env.scope.names.lookup y = some .local → swapsWith (.ListComp elt [⟨t, iter, ifs, 0⟩] sc2 pos) (some (.Name y py)) spos.line X.env = pure true →
      PS X (.Assign [.Name y py] (.ListComp elt [⟨t, iter, ifs, 0⟩] sc2 pos) spos) (tAsg (tF Y k W (.comp q es tg cc el own)) (gName i)) :=
  s_comp (elt := elt) (pos := pos) (own := own) (c := cc) (el := el) g c1 c2 (fun i m => by
    have := List.all_eq_true.mp c4 i m
    exact List.contains_iff_mem.mp this) (s_iter g tk hes true hi c3 (tup_of c2)) (fun X' g' => (hel.run X' sc2 elt noW g' takes_blk c5).2.1) (fun X' g' => s_test g' hcc c6) (fun σ H I S μ ρ Q w en q => ⟨I, S, μ, ρ, w, en, q⟩) (folded_of hi c3 _)
theorem sound (m : ME) : SndE Y k N m ∧ SndA Y k N m := by
  induction m with
  | anil =>
    refine ⟨noE fun _ _ => rfl, ⟨fun X sc es W g tk c => ?_, fun a as e => nomatch e⟩⟩
    cases es with
    | nil => exact ⟨s_nil.1, s_nil.2, fun e m => (List.not_mem_nil m).elim, Iff.intro (fun _ => rfl) (fun _ => rfl)⟩
    | cons e r => cases c
  | acons a as ha has => exact ⟨noE fun _ _ => rfl, sA_cons ha.1 has.2⟩
  | nothing => exact ⟨noE fun _ _ => rfl, noA (fun _ _ => rfl) fun _ _ e => nomatch e⟩
  | var i =>
    refine ⟨⟨fun X sc e W g tk c => ?_⟩, noA (fun _ _ => rfl) fun _ _ e => nomatch e⟩
    unfold chkE at c
    split at c
    · rename_i x pos
      obtain ⟨c1, c2⟩ := and2 c
      obtain ⟨p1, p2⟩ := s_var (W := W) (pos := pos) g (of_decide_eq_true c1) c2
      exact ⟨fun z => (nomatch z), p1, p2, tT_of g.hK p2 (fun _ => rfl), fun _ _ _ z => nomatch z⟩
    · cases c
  | int i =>
    refine ⟨⟨fun X sc e W g tk c => ?_⟩, noA (fun _ _ => rfl) fun _ _ e => nomatch e⟩
    unfold chkE at c
    split at c
    · have e := of_decide_eq_true c
      subst e
      exact ⟨fun z => (nomatch z), byE g.hK (fun _ z => nomatch z) (s_const (d := .int i) pe_int (fun _ => rfl) fun _ _ => rfl) (fun _ => rfl) fun _ _ _ z => nomatch z⟩
    · cases c
  | bl b =>
    refine ⟨⟨fun X sc e W g tk c => ?_⟩, noA (fun _ _ => rfl) fun _ _ e => nomatch e⟩
    unfold chkE at c
    split at c
    · have e := eq_of_beq c
      subst e
      exact ⟨fun z => (nomatch z), byE g.hK (fun _ z => nomatch z) (s_const (d := .bl b) pe_bl (fun _ => rfl) fun _ _ => rfl) (fun _ => rfl) fun _ _ _ z => nomatch z⟩
    · cases c
  | non =>
    refine ⟨⟨fun X sc e W g tk c => ?_⟩, noA (fun _ _ => rfl) fun _ _ e => nomatch e⟩
    unfold chkE at c
    split at c
    · exact ⟨fun z => (nomatch z), byE g.hK (fun _ z => nomatch z) (s_const (d := .non) pe_non (fun _ => rfl) fun _ _ => rfl) (fun _ => rfl) fun _ _ _ z => nomatch z⟩
    · cases c
  | str x =>
    refine ⟨⟨fun X sc e W g tk c => ?_⟩, noA (fun _ _ => rfl) fun _ _ e => nomatch e⟩
    unfold chkE at c
    split at c
    · obtain ⟨c1, c2⟩ := and2 c
      have e := of_decide_eq_true c1
      subst e
      have z := of_decide_eq_true c2
      exact ⟨fun z => (nomatch z), byE g.hK (fun _ z => nomatch z) (s_const (d := .str x) pe_str (fun _ => rfl) fun _ _ => ⟨rfl, Nat.le_trans z (by decide)⟩) (fun _ => rfl) fun _ _ _ z => nomatch z⟩
    · cases c
  | glo gx =>
    refine ⟨⟨fun X sc e W g tk c => ?_⟩, noA (fun _ _ => rfl) fun _ _ e => nomatch e⟩
    unfold chkE at c
    split at c
    · rename_i x pos
      obtain ⟨c1, c2⟩ := and2 c
      have e : Y.gn gx = x := of_decide_eq_true c1
      subst e
      obtain ⟨v1, v2, v3⟩ := gl_of c2 g.hs
      have p : PE X (.Name (Y.gn gx) pos) (tE Y k W (.glo gx)) := by
        cases hg : Y.T.glo gx with
        | none =>
          refine ⟨fun pins s σ H Q I' ⟨I, S, μ, ρ, w, en, q⟩ => ?_⟩
          have q' : Aft Y W σ I H μ ((match Y.T.glo gx with | some d => pure d | none => M.stuck : M D) S) (Gv Y Q) := q
          rw [hg] at q'
          exact q'.elim
        | some d =>
          obtain ⟨v, u, e1, e2, r⟩ := g.glo gx d hg
          refine s_const (d := d) (pe_glob v1 e1 e2 v2) (fun _ => ?_) r
          show (match Y.T.glo gx with | some d => pure d | none => M.stuck : M D) = _
          rw [hg]
      exact ⟨fun z => (nomatch z), byE g.hK (fun _ z => nomatch z) p (fun _ => rfl) fun _ _ _ z => nomatch z⟩
    · cases c
  | gfn f =>
    refine ⟨⟨fun X sc e W g tk c => ?_⟩, noA (fun _ _ => rfl) fun _ _ e => nomatch e⟩
    unfold chkE at c
    split at c
    · rename_i x pos
      obtain ⟨c1, c2, c3⟩ := and3 c
      have e : Y.nm f = x := of_decide_eq_true c1
      subst e
      obtain ⟨v1, v2, v3⟩ := gl_of c2 g.hs
      have hf : (Y.T.fn f).isSome = true := c3
      obtain ⟨fn, ef⟩ := Option.isSome_iff_exists.mp hf
      obtain ⟨a, fd, ps, e1, F, kp, b⟩ := g.defs f fn ef
      have p : PE X (.Name (Y.nm f) pos) (tE Y k W (.gfn f)) := by
        refine s_const (d := .fn f) (pe_glob (v := .ref a) v1 e1 rfl v2) (fun _ => ?_) fun I μ => ⟨a, rfl, by rw [← g.hm]; exact e1, hf⟩
        show (if (Y.T.fn f).isSome = true then pure (.fn f) else M.stuck : M D) = _
        rw [if_pos hf]
      exact ⟨fun z => (nomatch z), byE g.hK (fun _ z => nomatch z) p (fun _ => rfl) fun _ _ _ z => nomatch z⟩
    · cases c
  | tup es ih =>
    refine ⟨⟨fun X sc e W g tk c => ?_⟩, noA (fun _ _ => rfl) fun _ _ e => nomatch e⟩
    unfold chkE at c
    split at c
    · exact ⟨fun z => (nomatch z), byE g.hK (fun _ z => nomatch z) (s_tup (ih.2.run X sc _ W g tk c).1) (fun _ => rfl) fun _ _ _ z => nomatch z⟩
    · cases c
  | lst es ih =>
    refine ⟨⟨fun X sc e W g tk c => ?_⟩, noA (fun _ _ => rfl) fun _ _ e => nomatch e⟩
    unfold chkE at c
    split at c
    · rename_i xs pos
      have p := s_lst (pos := pos) (ih.2.run X sc _ W g tk c).1
      exact ⟨fun _ => p, byE g.hK (fun _ z => nomatch z) (tE_of p) (fun _ => rfl) fun _ _ _ z => nomatch z⟩
    · cases c
  | bin op a b ha hb =>
    refine ⟨⟨fun X sc e W g tk c => ?_⟩, noA (fun _ _ => rfl) fun _ _ e => nomatch e⟩
    unfold chkE at c
    split at c
    · rename_i x o y pos
      obtain ⟨c1, c2, c3⟩ := and3 c
      have e := of_decide_eq_true c1
      subst e
      have p := s_bin (op := op) (pos := pos) g.hK (ha.1.run X sc _ W g tk c2).2.2.1 (hb.1.run X sc _ W g tk c3).2.2.1
      exact ⟨fun _ => p, byE g.hK (fun _ z => nomatch z) (tE_of p) (fun _ => rfl) fun _ _ _ z => nomatch z⟩
    · cases c
  | neg a ha =>
    refine ⟨⟨fun X sc e W g tk c => ?_⟩, noA (fun _ _ => rfl) fun _ _ e => nomatch e⟩
    unfold chkE at c
    split at c
    · exact ⟨fun z => (nomatch z), byE g.hK (fun _ z => nomatch z) (s_neg (ha.1.run X sc _ W g tk c).2.1) (fun _ => rfl) fun _ _ _ z => nomatch z⟩
    · cases c
  | not a ha =>
    refine ⟨⟨fun X sc e W g tk c => ?_⟩, noA (fun _ _ => rfl) fun _ _ e => nomatch e⟩
    unfold chkE at c
    split at c
    · obtain ⟨_, _, p1, p2, _⟩ := ha.1.run X sc _ W g tk c
      obtain ⟨q1, q2⟩ := s_not g.hK p1 p2
      exact ⟨fun z => (nomatch z), q1, tV_of (fun _ z => nomatch z) q1, q2, fun _ _ _ z => nomatch z⟩
    · cases c
  | and a b ha hb =>
    refine ⟨⟨fun X sc e W g tk c => ?_⟩, noA (fun _ _ => rfl) fun _ _ e => nomatch e⟩
    unfold chkE at c
    split at c
    · rename_i x y r pos
      obtain ⟨c1, c2⟩ := and2 c
      obtain ⟨_, p1, _, p3, _⟩ := ha.1.run X sc _ W g tk c1
      have q : PE X (.BoolOp .And (y :: r) pos) (tE Y k W b) ∧ PW X (.BoolOp .And (y :: r) pos) (tT Y k W b) := by
        cases r with
        | nil =>
          obtain ⟨_, q1, _, q3, _⟩ := hb.1.run X sc _ W g tk c2
          exact ⟨pe_one q1, pw_and1 q3⟩
        | cons z r =>
          obtain ⟨_, q1, _, _, q4⟩ := hb.1.run X sc _ W g tk c2
          exact ⟨q1, q4 _ _ _ rfl⟩
      have e1 := s_and g.hK p1 q.1
      have e2 := s_andT p3 q.2
      exact ⟨fun z => (nomatch z), e1, tV_of (fun _ z => nomatch z) e1, e2.pt, fun _ _ _ _ => e2⟩
    · cases c
  | or a b ha hb =>
    refine ⟨⟨fun X sc e W g tk c => ?_⟩, noA (fun _ _ => rfl) fun _ _ e => nomatch e⟩
    unfold chkE at c
    split at c
    · rename_i x y r pos
      obtain ⟨c1, c2⟩ := and2 c
      obtain ⟨_, p1, _, p3, _⟩ := ha.1.run X sc _ W g tk c1
      have q : PE X (.BoolOp .Or (y :: r) pos) (tE Y k W b) ∧ PW X (.BoolOp .Or (y :: r) pos) (tT Y k W b) := by
        cases r with
        | nil =>
          obtain ⟨_, q1, _, q3, _⟩ := hb.1.run X sc _ W g tk c2
          exact ⟨pe_one q1, pw_or1 q3⟩
        | cons z r =>
          obtain ⟨_, q1, _, _, q4⟩ := hb.1.run X sc _ W g tk c2
          exact ⟨q1, q4 _ _ _ rfl⟩
      have e1 := s_or g.hK p1 q.1
      have e2 := s_orT p3 q.2
      exact ⟨fun z => (nomatch z), e1, tV_of (fun _ z => nomatch z) e1, e2.pt, fun _ _ _ _ => e2⟩
    · cases c
  | cmp op a b ha hb =>
    refine ⟨⟨fun X sc e W g tk c => ?_⟩, noA (fun _ _ => rfl) fun _ _ e => nomatch e⟩
    unfold chkE at c
    split at c
    · obtain ⟨c1, c2, c3, c4⟩ := and4 c
      have e := of_decide_eq_true c1
      subst e
      obtain ⟨e1, e2⟩ := s_cmp g.room g.hK (not_f c4) (ha.1.run X sc _ W g tk c2).2.2.1 (hb.1.run X sc _ W g tk c3).2.2.1
      exact ⟨fun z => (nomatch z), e1, tV_of (fun _ z => nomatch z) e1, e2, fun _ _ _ z => nomatch z⟩
    · cases c
  | chain op op' a b d ha hb hd =>
    refine ⟨⟨fun X sc e W g tk c => ?_⟩, noA (fun _ _ => rfl) fun _ _ e => nomatch e⟩
    unfold chkE at c
    split at c
    · obtain ⟨c, c6⟩ := and2 c
      obtain ⟨c, c5⟩ := and2 c
      obtain ⟨c1, c2, c3, c4⟩ := and4 c
      have e := of_decide_eq_true c1
      subst e
      have e := of_decide_eq_true c2
      subst e
      obtain ⟨e1, e2⟩ := s_chain g.room g.hK (not_f c6) (ha.1.run X sc _ W g tk c3).2.1 (hb.1.run X sc _ W g tk c4).2.1 (hd.1.run X sc _ W g tk c5).2.1
      exact ⟨fun z => (nomatch z), e1, tV_of (fun _ z => nomatch z) e1, e2, fun _ _ _ z => nomatch z⟩
    · cases c
  | ite l a b hl ha hb =>
    refine ⟨⟨fun X sc e W g tk c => ?_⟩, noA (fun _ _ => rfl) fun _ _ e => nomatch e⟩
    unfold chkE at c
    split at c
    · rename_i pos
      obtain ⟨c1, c2, c3⟩ := and3 c
      obtain ⟨_, _, _, t1, _⟩ := hl.1.run X sc _ W g tk c1
      obtain ⟨_, p2, _, t2, _⟩ := ha.1.run X sc _ W g tk c2
      obtain ⟨_, p3, _, t3, _⟩ := hb.1.run X sc _ W g tk c3
      have e1 := s_ite (pos := pos) t1 p2 p3
      refine ⟨fun z => (nomatch z), e1, tV_of (fun _ z => nomatch z) e1, ?_, fun _ _ _ z => nomatch z⟩
      refine mono_PT (pt_ifExp t1 t2 t3) fun σ H Q ⟨I, S, μ, ρ, w, en, q⟩ => ⟨I, S, μ, ρ, w, en, (ite_T q).mono fun t I1 H1 S1 μ1 x1 w1 q1 => ?_⟩
      cases t with
      | true => exact ⟨I1, S1, μ1, ρ, w1, en.ext x1, q1⟩
      | false => exact ⟨I1, S1, μ1, ρ, w1, en.ext x1, q1⟩
    · cases c
  | ix a i ha hi =>
    refine ⟨⟨fun X sc e W g tk c => ?_⟩, noA (fun _ _ => rfl) fun _ _ e => nomatch e⟩
    unfold chkE at c
    split at c
    · obtain ⟨c1, c2, c3⟩ := and3 c
      exact ⟨fun z => (nomatch z), byE g.hK (fun _ z => nomatch z) (s_ix g.hK (ha.1.run X sc _ W g tk c1).2.2.1 (hi.1.run X sc _ W g tk c2).2.1 c3) (fun _ => rfl) fun _ _ _ z => nomatch z⟩
    · cases c
  | sl a lo hi ha hlo hhi =>
    refine ⟨⟨fun X sc e W g tk c => ?_⟩, noA (fun _ _ => rfl) fun _ _ e => nomatch e⟩
    unfold chkE at c
    split at c
    · rename_i x l h p2 pos
      obtain ⟨c1, c2, c3⟩ := and3 c
      have p := s_sl (pos := pos) (p2 := p2) g.hK (ha.1.run X sc _ W g tk c1).2.2.1 (po_ok (opt_of g tk hlo.1 c2)) (po_ok (opt_of g tk hhi.1 c3))
      exact ⟨fun _ => p, byE g.hK (fun _ z => nomatch z) (tE_of p) (fun _ => rfl) fun _ _ _ z => nomatch z⟩
    · cases c
  | call f es ih =>
    refine ⟨⟨fun X sc e W g tk c => ?_⟩, noA (fun _ _ => rfl) fun _ _ e => nomatch e⟩
    unfold chkE at c
    split at c
    · obtain ⟨c1, c2, c3, c4⟩ := and4 c
      obtain ⟨r1, _, r3, r4⟩ := ih.2.run X sc _ W g tk c4
      exact ⟨fun z => (nomatch z), byE g.hK (fun _ z => nomatch z) (call_def g tk (of_decide_eq_true c1) c2 c3 r3 r1 r4) (fun _ => rfl) fun _ _ _ z => nomatch z⟩
    · cases c
  | calli i es ih =>
    refine ⟨⟨fun X sc e W g tk c => ?_⟩, noA (fun _ _ => rfl) fun _ _ e => nomatch e⟩
    unfold chkE at c
    split at c
    · rename_i x p as pos
      obtain ⟨c1, c2, c3, c4⟩ := and4 c
      obtain ⟨r1, _, r3, r4⟩ := ih.2.run X sc _ W g tk c3
      cases as with
      | nil => cases c4
      | cons y ys =>
        exact ⟨fun z => (nomatch z), byE g.hK (fun _ z => nomatch z) (call_slot g tk (of_decide_eq_true c1) c2 r3 r1 (fun z => nomatch (r4.mpr z))) (fun _ => rfl) fun _ _ _ z => nomatch z⟩
    · cases c
  | blt f es ih =>
    refine ⟨⟨fun X sc e W g tk c => ?_⟩, noA (fun _ _ => rfl) fun _ _ e => nomatch e⟩
    unfold chkE at c
    split at c
    · rename_i x p as pos
      obtain ⟨c1, c2, c3, c4⟩ := and4 c
      obtain ⟨_, r2, r3, r4⟩ := ih.2.run X sc _ W g tk c3
      cases as with
      | nil => cases c4
      | cons y ys =>
        have p := s_blt (p := p) (pos := pos) g (of_decide_eq_true c1) c2 r3 r2
        exact ⟨fun _ => p, byE g.hK (fun _ z => nomatch z) (tE_of p) (fun _ => rfl) fun _ _ _ z => nomatch z⟩
    · cases c
  | isi a ty ha =>
    refine ⟨⟨fun X sc e W g tk c => ?_⟩, noA (fun _ _ => rfl) fun _ _ e => nomatch e⟩
    unfold chkE at c
    split at c
    · obtain ⟨c, c6⟩ := and2 c
      obtain ⟨c, c5⟩ := and2 c
      obtain ⟨c1, c2, c3, c4⟩ := and4 c
      have e := of_decide_eq_true c1
      subst e
      have e := of_decide_eq_true c3
      subst e
      exact ⟨fun z => (nomatch z), byE g.hK (fun _ z => nomatch z) (s_isi g c2 c4 c6 (ha.1.run X sc _ W g tk c5).2.1) (fun _ => rfl) fun _ _ _ z => nomatch z⟩
    · cases c
  | isx i c0 => exact ⟨noE fun _ _ => rfl, noA (fun _ _ => rfl) fun _ _ e => nomatch e⟩
  | comp q es tg cc el own hes hcc hel =>
    refine ⟨⟨fun X sc e W g tk c => ?_⟩, noA (fun _ _ => rfl) fun _ _ e => nomatch e⟩
    unfold chkE at c
    split at c
    · rename_i elt t iter ifs sc2 pos
      obtain ⟨c, c6⟩ := and2 c
      obtain ⟨c, c5⟩ := and2 c
      obtain ⟨c1, c2, c3, c4⟩ := and4 c
      split at c3
      · rename_i as hi
        have p := (comp_parts (elt := elt) (pos := pos) g tk c1 c2 c4 hi c3 c5 c6 hes.2 hcc.1 hel.1).1
        exact ⟨fun _ => p, byE g.hK (fun _ z => nomatch z) (tE_of p) (fun _ => rfl) fun _ _ _ z => nomatch z⟩
      · cases c3
    · cases c
end
end EV

/-! EvStm: statements. -/
namespace EV
open PySem PySem.Spec PyProof.Rows L2

/-! ### comprehensions at a store -/
section
variable {Y : Fix} {k : Nat} {N : List Str} {W : WX} {σ : L2.St} {I H H0 I' H' : Hp} {S S' : Sto} {μ μ' : List Addr}
def isComp : Expr → Bool
  | .ListComp .. => true
  | .SetComp .. => true
  | .DictComp .. => true
  | _ => false
theorem sw_false {e : Expr} {tg : Option Expr} {l : Nat} {env : PySem.Env} (h : isComp e = false) : swapsWith e tg l env = pure false := by
  cases e <;> first | rfl | cases h
/-- is this list comprehension made behind the store's back? -/
def swB (sc : Scope) (y : Str) (py : Pos) : Expr → Bool
  | .ListComp _ _ s pos => (match sc.names.lookup y with | some .local => true | _ => false) && (py.line == pos.line) && !(s.names.any fun (n, k) => n == y && (k == .local || k == .cell))
  | _ => false
def funB (sc : Scope) : Bool := match sc.kind with
  | .function => true
  | _ => false
theorem sw_list {elt : Expr} {gs : List Comprehension} {s : Scope} {pos py : Pos} {y : Str} {l : Nat} {env : PySem.Env} (hk : env.scope.kind = .function) (h : swB env.scope y py (.ListComp elt gs s pos) = false) : swapsWith (.ListComp elt gs s pos) (some (.Name y py)) l env = pure false := by
  have hb : env.blockKind = .function := by unfold Env.blockKind; rw [hk]; rfl
  have h' : ((match env.scope.names.lookup y with | some .local => true | _ => false) && (py.line == pos.line) && !(s.names.any fun (n, k) => n == y && (k == .local || k == .cell))) = false := h
  have e : swapsWith (.ListComp elt gs s pos) (some (.Name y py)) l env = pure (env.blockKind == .function && env.kindOf y == some .local && py.line == pos.line && !(s.names.any fun (n, k) => n == y && (k == .local || k == .cell))) := rfl
  rw [e, hb]
  have ek : (env.kindOf y == some NameKind.local) = (match env.scope.names.lookup y with | some .local => true | _ => false) := by
    show (env.scope.names.lookup y == some NameKind.local) = _
    cases env.scope.names.lookup y with
    | none => rfl
    | some q => cases q <;> rfl
  rw [ek]
  have ef : ((ScopeKind.function == ScopeKind.function) : Bool) = true := rfl
  rw [ef, Bool.true_and, h']

/-! ### states within a def -/
structure Bs where
  I : Hp
  H : Hp
  μ : List Addr
  J : Hp
  ν : List Addr
structure St (Y : Fix) (B : Bs) (I H : Hp) (S : Sto) (μ : List Addr) (ρ : Env) (σ : L2.St) : Prop where
  w : Wd Y I H S μ
  en : EnvOk Y I H μ ρ σ
  x : Ext B.I B.H B.μ I H μ
  fr : ∀ (i : Nat) (ds : List D) (a : Addr), ρ[i]? = some (.own ds) → σ[i]? = some (some (.ref a)) → B.H a = none
  lo : Same B.J I
  ln : B.ν <+: μ
theorem St.ext {B : Bs} {I1 H1 : Hp} {S1 : Sto} {μ1 : List Addr} {ρ : Env} (st : St Y B I H S μ ρ σ) (x : Ext I H μ I1 H1 μ1) (w : Wd Y I1 H1 S1 μ1) : St Y B I1 H1 S1 μ1 ρ σ := ⟨w, st.en.ext x, st.x.trans x, st.fr, st.lo.trans x.sub, st.ln.trans x.mu⟩
def AftS (Y : Fix) (W : WX) (Dn : Ends) (B : Bs) : Res Out → Prop
  | .ok (.nx ρ) S => ∀ σ I H μ, St Y B I H S μ ρ σ → Dn.nx σ H
  | .ok (.ct ρ) S => ∀ σ I H μ, St Y B I H S μ ρ σ → Dn.ct σ H
  | .ok (.ret d) S => ∀ I H μ, Ext B.I B.H B.μ I H μ → Wd Y I H S μ → ∀ v, Rep Y I μ d v → Dn.rt v H
  | .ok (.thr c ρ) S => ∀ σ I H μ, St Y B I H S μ ρ σ → WOK Y W c σ H
  | _ => False
variable {B : Bs} {Dn : Ends} {ρ : Env}
theorem lftA_aft {α : Type} {m : M α} {f : α → M Out} (st : St Y B I H S μ ρ σ) (h : AftS Y W Dn B (lftA ρ m f S)) : Aft Y W σ I H μ (m S) fun d _ _ S1 _ => AftS Y W Dn B (f d S1) := by
  unfold lftA at h
  cases e : m S with
  | ok d S1 => rw [e] at h; exact fun _ _ _ _ _ => h
  | exc c S1 =>
    rw [e] at h
    exact fun I' H' μ' x w => h σ I' H' μ' (st.ext x w)
  | stuck => rw [e] at h; exact h.elim
theorem lft_aft {m : M D} {f : D → M Out} (st : St Y B I H S μ ρ σ) (h : AftS Y W Dn B (lft ρ m f S)) : Aft Y W σ I H μ (m S) fun d _ _ S1 _ => AftS Y W Dn B (f d S1) := by
  unfold lft at h
  cases e : m S with
  | ok d S1 => rw [e] at h; exact fun _ _ _ _ _ => h
  | exc c S1 =>
    rw [e] at h
    exact fun I' H' μ' x w => h σ I' H' μ' (st.ext x w)
  | stuck => rw [e] at h; exact h.elim
def tS (Y : Fix) (k : Nat) (W : WX) (m : MS) : TS := fun Dn σ H => ∃ B I S μ ρ, St Y B I H S μ ρ σ ∧ AftS Y W Dn B (ex (cl Y k) Y.T.F m ρ S)
/-- an outcome that is no next: the same for all that follow -/
theorem thenO_aft {m : M Out} {f : Env → M Out} (h : AftS Y W Dn B (thenO m f S)) (N : L2.St → Hp → Prop) (hN : ∀ ρ S1, AftS Y W Dn B (f ρ S1) → ∀ σ I H μ, St Y B I H S1 μ ρ σ → N σ H) : AftS Y W { Dn with nx := N } B (m S) := by
  have h' : AftS Y W Dn B (M.bnd m (fun o => match o with
    | .nx ρ => f ρ
    | o => pure o) S) := h
  unfold M.bnd at h'
  cases e : m S with
  | stuck => rw [e] at h'; exact h'.elim
  | exc c S1 => rw [e] at h'; exact h'.elim
  | ok o S1 =>
    rw [e] at h'
    cases o with
    | nx ρ => exact fun σ I H μ st => hN ρ S1 h' σ I H μ st
    | ct ρ => exact h'
    | ret d => exact h'
    | thr c ρ => exact h'
theorem pss_seq {X : Cx} {s : Stmt} {r : List Stmt} {a b : MS} (h1 : PS X s (tS Y k W a)) (h2 : PSs X r (tS Y k W b)) : PSs X (s :: r) (tS Y k W (.seq a b)) :=
  mono_PSs (pss_cons h1 h2) fun Dn σ H ⟨B, I, S, μ, ρ, st, h⟩ => ⟨B, I, S, μ, ρ, st, thenO_aft h _ fun ρ' S1 h1 σ' I' H' μ' st' => ⟨B, I', S1, μ', ρ', st', h1⟩⟩
theorem pss_skip {X : Cx} : PSs X [] (tS Y k W .skip) := mono_PSs pss_nil fun Dn σ H ⟨B, I, S, μ, ρ, st, h⟩ => h σ I H μ st
theorem ps_skip {X : Cx} {pos : Pos} : PS X (.Pass pos) (tS Y k W .skip) := mono_PS ps_pass fun Dn σ H ⟨B, I, S, μ, ρ, st, h⟩ => h σ I H μ st
theorem ps_cont {X : Cx} {pos : Pos} : PS X (.Continue pos) (tS Y k W .cont) := mono_PS ps_continue fun Dn σ H ⟨B, I, S, μ, ρ, st, h⟩ => h σ I H μ st
/-- an owned list becomes a value -/
theorem St.pub (st : St Y B I H S μ ρ σ) {i : Nat} {ds : List D} (h : ρ[i]? = some (.own ds)) : ∃ I', St Y B I' H S μ (setV ρ i (.lst ds)) σ := by
  obtain ⟨a, vs, e1, e2, e3, e4, e5, r⟩ := st.en.own i ds h
  have hf := st.fr i ds a h e1
  have w' := st.w.fix e2 e3 e4
  have s' : Same I (upd I a (.lst vs)) := Same.updN e3
  refine ⟨upd I a (.lst vs), ⟨w', ?_, st.x.fix e3 hf, ?_, st.lo.trans s', st.ln⟩⟩
  · refine ⟨by unfold setV; rw [List.length_set]; exact st.en.len, fun j d q => ?_, fun j es q => ?_, fun j l b es fs q1 q2 q3 q4 => ?_⟩
    · unfold setV at q
      by_cases hj : i = j
      · subst hj
        rw [List.getElem?_set_self (List.getElem?_eq_some_iff.mp h).1] at q
        cases q
        exact ⟨_, e1, a, vs, rfl, upd_same, e5, r.mono s' (List.prefix_refl _)⟩
      · rw [List.getElem?_set_ne hj] at q
        obtain ⟨v, e, rv⟩ := st.en.val j d q
        exact ⟨v, e, rv.mono s' (List.prefix_refl _)⟩
    · unfold setV at q
      by_cases hj : i = j
      · subst hj
        rw [List.getElem?_set_self (List.getElem?_eq_some_iff.mp h).1] at q
        cases q
      · rw [List.getElem?_set_ne hj] at q
        obtain ⟨b, us, f1, f2, f3, f4, f5, r2⟩ := st.en.own j es q
        refine ⟨b, us, f1, f2, ?_, f4, f5, r2.mono s' (List.prefix_refl _)⟩
        have hb : b ≠ a := fun z => by
          subst z
          exact hj (st.en.sep i j b ds es h q e1 f1)
        rw [upd_ne hb]; exact f3
    · unfold setV at q1 q2
      have n1 : i ≠ j := fun z => by
        subst z
        rw [List.getElem?_set_self (List.getElem?_eq_some_iff.mp h).1] at q1
        cases q1
      have n2 : i ≠ l := fun z => by
        subst z
        rw [List.getElem?_set_self (List.getElem?_eq_some_iff.mp h).1] at q2
        cases q2
      rw [List.getElem?_set_ne n1] at q1
      rw [List.getElem?_set_ne n2] at q2
      exact st.en.sep j l b es fs q1 q2 q3 q4
  · intro j es b q1 q2
    unfold setV at q1
    have n1 : i ≠ j := fun z => by
      subst z
      rw [List.getElem?_set_self (List.getElem?_eq_some_iff.mp h).1] at q1
      cases q1
    rw [List.getElem?_set_ne n1] at q1
    exact st.fr j es b q1 q2
theorem ps_pub {X : Cx} {s : Stmt} {i : Nat} {a : MS} (h : PS X s (tS Y k W a)) : PS X s (tS Y k W (.pub i a)) :=
  mono_PS h fun Dn σ H ⟨B, I, S, μ, ρ, st, q⟩ => by
    have e0 : ex (cl Y k) Y.T.F (.pub i a) ρ = (match ρ[i]? with
      | some (.own ds) => ex (cl Y k) Y.T.F a (setV ρ i (.lst ds))
      | _ => ex (cl Y k) Y.T.F a ρ) := rfl
    rw [e0] at q
    cases e : ρ[i]? with
    | none => rw [e] at q; exact ⟨B, I, S, μ, ρ, st, q⟩
    | some sl =>
      rw [e] at q
      cases sl with
      | own ds =>
        obtain ⟨I', st'⟩ := st.pub e
        exact ⟨B, I', S, μ, _, st', q⟩
      | _ => exact ⟨B, I, S, μ, ρ, st, q⟩
/-! ### stores -/
theorem St.setV (st : St Y B I H S μ ρ σ) {i : Nat} {d : D} {v : V} (r : Rep Y I μ d v) : St Y B I H S μ (EV.setV ρ i d) (σ.set i (some v)) := by
  refine ⟨st.w, st.en.set r, st.x, fun j es b q1 q2 => ?_, st.lo, st.ln⟩
  unfold EV.setV at q1
  have n1 : i ≠ j := fun z => by
    subst z
    rw [List.getElem?_set_self (by have := (List.getElem?_eq_some_iff.mp q1).1; rw [List.length_set] at this; exact this)] at q1
    cases q1
  rw [List.getElem?_set_ne n1] at q1 q2
  exact st.fr j es b q1 q2
/-- a list of one's own -/
theorem St.setO (st : St Y B I H S μ ρ σ) {i : Nat} {ds : List D} {a : Addr} {vs : List V} (h1 : H a = some (.lst vs)) (h2 : I a = none) (h3 : a ∉ μ) (h4 : B.H a = none) (h5 : ds.length ≤ sizeLine) (r : Reps Y I μ ds vs)
    (hn : ∀ (j : Nat) (es : List D), i ≠ j → ρ[j]? = some (.own es) → σ[j]? ≠ some (some (.ref a))) : St Y B I H S μ (ρ.set i (.own ds)) (σ.set i (some (.ref a))) := by
  have get : ∀ (j : Nat) (s : Sl), (ρ.set i (.own ds))[j]? = some s → (i = j ∧ s = .own ds ∧ i < ρ.length) ∨ (i ≠ j ∧ ρ[j]? = some s) := fun j s q => by
    by_cases hj : i = j
    · subst hj
      have hl : i < ρ.length := by have := (List.getElem?_eq_some_iff.mp q).1; rw [List.length_set] at this; exact this
      rw [List.getElem?_set_self hl] at q
      exact .inl ⟨rfl, (Option.some.inj q).symm, hl⟩
    · rw [List.getElem?_set_ne hj] at q
      exact .inr ⟨hj, q⟩
  refine ⟨st.w, ⟨by rw [List.length_set, List.length_set]; exact st.en.len, fun j d q => ?_, fun j es q => ?_, fun j l b es fs q1 q2 q3 q4 => ?_⟩, st.x, fun j es b q1 q2 => ?_, st.lo, st.ln⟩
  · rcases get j _ q with ⟨_, e, _⟩ | ⟨n, q⟩
    · cases e
    · rw [List.getElem?_set_ne n]
      exact st.en.val j d q
  · rcases get j _ q with ⟨e, e2, hl⟩ | ⟨n, q⟩
    · subst e
      cases e2
      exact ⟨a, vs, List.getElem?_set_self (by rw [← st.en.len]; exact hl), h1, h2, h3, h5, r⟩
    · rw [List.getElem?_set_ne n]
      exact st.en.own j es q
  · rcases get j _ q1 with ⟨e, e2, hl⟩ | ⟨n, q1⟩
    · subst e
      rw [List.getElem?_set_self (by rw [← st.en.len]; exact hl)] at q3
      cases q3
      rcases get l _ q2 with ⟨e, _, _⟩ | ⟨n2, q2⟩
      · exact e
      · rw [List.getElem?_set_ne n2] at q4
        exact absurd q4 (hn l fs n2 q2)
    · rw [List.getElem?_set_ne n] at q3
      rcases get l _ q2 with ⟨e, e2, hl⟩ | ⟨n2, q2⟩
      · subst e
        rw [List.getElem?_set_self (by rw [← st.en.len]; exact hl)] at q4
        cases q4
        exact absurd q3 (hn j es n q1)
      · rw [List.getElem?_set_ne n2] at q4
        exact st.en.sep j l b es fs q1 q2 q3 q4
  · rcases get j _ q1 with ⟨e, e2, hl⟩ | ⟨n, q1⟩
    · subst e
      rw [List.getElem?_set_self (by rw [← st.en.len]; exact hl)] at q2
      cases q2
      exact h4
    · rw [List.getElem?_set_ne n] at q2
      exact st.fr j es b q1 q2
/-- a new cell -/
theorem St.addCell (st : St Y B I H S μ ρ σ) {ds : List D} {a : Addr} {vs : List V} (h1 : H a = some (.lst vs)) (h2 : I a = none) (h3 : a ∉ μ) (h4 : B.H a = none) (h5 : ds.length ≤ sizeLine) (r : Reps Y I μ ds vs)
    (hn : ∀ (j : Nat) (es : List D), ρ[j]? = some (.own es) → σ[j]? ≠ some (some (.ref a))) : St Y B I H (S ++ [.lst ds]) (μ ++ [a]) ρ σ := by
  have pf : μ <+: μ ++ [a] := List.prefix_append _ _
  refine ⟨⟨st.w.sub, by rw [List.length_append, List.length_append, st.w.len]; rfl, ?_, fun n c e => ?_⟩, ⟨st.en.len, fun j d q => ?_, fun j es q => ?_, st.en.sep⟩, ⟨st.x.sub, st.x.mu.trans pf, st.x.new, st.x.keep, st.x.there, fun b m => ?_⟩, st.fr, st.lo, st.ln.trans pf⟩
  · rw [List.nodup_append]
    refine ⟨st.w.nd, by simp, fun x hx y hy e => ?_⟩
    have : y = a := by simpa using hy
    subst this
    exact h3 (e ▸ hx)
  · by_cases hl : n < S.length
    · rw [List.getElem?_append_left hl] at e
      obtain ⟨b, e1, e2, e3⟩ := st.w.cell n c e
      refine ⟨b, ?_, e2, ?_⟩
      · rw [List.getElem?_append_left (by rw [st.w.len]; exact hl)]
        exact e1
      · cases c with
        | lst es =>
          obtain ⟨us, f1, f2, f3⟩ := e3
          exact ⟨us, f1, f2, f3.mono (Same.refl _) pf⟩
        | ins fs => exact e3.elim
    · have hn' : n = S.length := by
        have := (List.getElem?_eq_some_iff.mp e).1
        rw [List.length_append] at this
        have h1' : n < S.length + 1 := this
        omega
      subst hn'
      rw [List.getElem?_append_right (Nat.le_refl _), Nat.sub_self] at e
      cases e
      refine ⟨a, ?_, h2, vs, h1, h5, r.mono (Same.refl _) pf⟩
      rw [List.getElem?_append_right (by rw [st.w.len]; exact Nat.le_refl _), st.w.len, Nat.sub_self]
      rfl
  · obtain ⟨v, e, rv⟩ := st.en.val j d q
    exact ⟨v, e, rv.mono (Same.refl _) pf⟩
  · obtain ⟨b, us, f1, f2, f3, f4, f5, r2⟩ := st.en.own j es q
    refine ⟨b, us, f1, f2, f3, fun m => ?_, f5, r2.mono (Same.refl _) pf⟩
    rcases List.mem_append.mp m with m | m
    · exact f4 m
    · have : b = a := by simpa using m
      subst this
      exact hn j es q f1
  · rcases List.mem_append.mp m with m | m
    · exact st.x.fresh b m
    · have : b = a := by simpa using m
      subst this
      exact .inr h4
/-- the states from which an assignment goes on -/
theorem asg_set {i : Nat} {m : ME} {σ : L2.St} {H : Hp} (h : tS Y k W (.set i m) Dn σ H) : tAsg (tE Y k W m) (gName i) Dn σ H := by
  obtain ⟨B, I, S, μ, ρ, st, q⟩ := h
  refine ⟨I, S, μ, ρ, st.w, st.en, (lft_aft st q).mono fun d I1 H1 S1 μ1 x1 w1 q1 v r => ?_⟩
  exact q1 _ I1 H1 μ1 ((st.ext x1 w1).setV r)
theorem asg_own {i : Nat} {m : ME} {σ : L2.St} {H : Hp} (h : tS Y k W (.setOwn i m) Dn σ H) : tAsg (tF Y k W m) (gName i) Dn σ H := by
  obtain ⟨B, I, S, μ, ρ, st, q⟩ := h
  refine ⟨I, S, μ, ρ, st.w, st.en, (lft_aft st q).mono fun d I1 H1 S1 μ1 x1 w1 q1 => ?_⟩
  cases d with
  | lst ds =>
    intro a vs h1 h2 h3 h4 h5 h6
    refine q1 _ I1 H1 μ1 ((st.ext x1 w1).setO h1 h2 h3 (st.x.free h4) h5 h6 fun j es n e1 e2 => ?_)
    obtain ⟨b, us, f1, f2, _⟩ := st.en.own j es e1
    rw [f1] at e2
    cases e2
    rw [f2] at h4
    cases h4
  | _ => exact q1.elim
theorem asg_cell {i : Nat} {m : ME} {σ : L2.St} {H : Hp} (h : tS Y k W (.setCell i m) Dn σ H) : tAsg (tF Y k W m) (gName i) Dn σ H := by
  obtain ⟨B, I, S, μ, ρ, st, q⟩ := h
  refine ⟨I, S, μ, ρ, st.w, st.en, (lft_aft st q).mono fun d I1 H1 S1 μ1 x1 w1 q1 => ?_⟩
  cases d with
  | lst ds =>
    intro a vs h1 h2 h3 h4 h5 h6
    have st1 := st.ext x1 w1
    have hn : ∀ (j : Nat) (es : List D), ρ[j]? = some (.own es) → σ[j]? ≠ some (some (.ref a)) := fun j es e1 e2 => by
      obtain ⟨b, us, f1, f2, _⟩ := st.en.own j es e1
      rw [f1] at e2
      cases e2
      rw [f2] at h4
      cases h4
    have st2 := st1.addCell h1 h2 h3 (st.x.free h4) h5 h6 hn
    refine q1 _ I1 H1 _ (st2.setV (d := .cell S1.length) (v := .ref a) ⟨a, rfl, ?_⟩)
    rw [List.getElem?_append_right (by rw [w1.len]; exact Nat.le_refl _), w1.len, Nat.sub_self]
    rfl
  | _ => exact q1.elim
end
end EV

/-! EvStm2: the statements, one by one. -/
namespace EV
open PySem PySem.Spec PyProof.Rows L2
/-- where the statements of a def stand -/
structure GxS (Y : Fix) (k : Nat) (N : List Str) (sc : Scope) (X : Cx) : Prop extends Gx Y k N sc X where
  sce : X.env.scope = sc
  kf : sc.kind = .function
  pass : PassesOwn (model X.prog X.w) X.A X.env X.xe
section
variable {Y : Fix} {k : Nat} {N : List Str} {W : WX} {σ : L2.St} {I H H0 I' H' : Hp} {S S' : Sto} {μ μ' : List Addr} {sc : Scope} {X : Cx} {B : Bs} {Dn : Ends} {ρ : Env}
theorem tF_of_tE {m : ME} {Q : VK} (h : tE Y k W m σ H Q) : tF Y k W m σ H Q := by
  obtain ⟨I, S, μ, ρ, w, en, q⟩ := h
  exact ⟨I, S, μ, ρ, w, en, Gf_of q⟩
theorem nd_of (g : Gx Y k N sc X) : X.N.Nodup := by rw [g.hN]; exact g.nd
theorem is_comp {m : ME} {e : Expr} (c : chkE (names Y) N m sc e = true) (h : isComp e = true) : (∃ q es tg cc el own, m = .comp q es tg cc el own) ∧ ∃ elt t iter ifs sc2 pos, e = .ListComp elt [⟨t, iter, ifs, 0⟩] sc2 pos := by
  cases e with
  | ListComp elt gens sc2 pos =>
    have hm : ∃ q es tg cc el own, m = .comp q es tg cc el own := by
      cases m <;> first | exact ⟨_, _, _, _, _, _, rfl⟩ | (unfold chkE at c; cases c)
    refine ⟨hm, ?_⟩
    obtain ⟨q, es, tg, cc, el, own, rfl⟩ := hm
    unfold chkE at c
    split at c
    · rename_i e1
      cases e1
      exact ⟨_, _, _, _, _, _, rfl⟩
    · cases c
  | SetComp _ _ _ _ => cases m <;> (unfold chkE at c; cases c)
  | DictComp _ _ _ _ _ => cases m <;> (unfold chkE at c; cases c)
  | _ => cases h
theorem loc_is (g : GxS Y k N sc X) {x : Str} (h : locB sc x = true) : L2.Loc X.env.scope x ∧ (X.fn x = true ∨ X.env.scope.names.lookup x = some .local) := loc_of g.toGx h
/-- name = e -/
theorem asg_name {i : Nat} {m : ME} {e : Expr} {y : Str} {py pos : Pos} (g : GxS Y k N sc X) (tk : Takes X W) (hy : N[i]? = some y) (hl : locB sc y = true) (c : chkE (names Y) N m sc e = true) :
    PS X (.Assign [.Name y py] e pos) (tAsg (tE Y k W m) (gName i)) ∧ (frs m = true → PS X (.Assign [.Name y py] e pos) (tAsg (tF Y k W m) (gName i))) := by
  obtain ⟨l1, l2⟩ := loc_is g hl
  have hy' : X.N[i]? = some y := by rw [g.hN]; exact hy
  have snd := (sound (Y := Y) (k := k) (N := N) m).1.run X sc e W g.toGx tk c
  have plain : swapsWith e (some (.Name y py)) pos.line X.env = pure false → PS X (.Assign [.Name y py] e pos) (tAsg (tE Y k W m) (gName i)) ∧ (frs m = true → PS X (.Assign [.Name y py] e pos) (tAsg (tF Y k W m) (gName i))) := fun hs =>
    ⟨ps_set (nd_of g.toGx) hy' l1 snd.2.1 hs l2, fun hf => ps_set (nd_of g.toGx) hy' l1 (snd.1 hf) hs l2⟩
  by_cases hc : isComp e = true
  · obtain ⟨⟨q, es, tg, cc, el, own, rfl⟩, elt, t, iter, ifs, sc2, p2, rfl⟩ := is_comp c hc
    have hk : X.env.scope.kind = .function := by rw [g.sce]; exact g.kf
    by_cases hs : swB X.env.scope y py (.ListComp elt [⟨t, iter, ifs, 0⟩] sc2 p2) = true
    · have hs' : ((match X.env.scope.names.lookup y with | some .local => true | _ => false) && (py.line == p2.line) && !(sc2.names.any fun (n, k) => n == y && (k == .local || k == .cell))) = true := hs
      obtain ⟨a1, a2, a3⟩ := and3 hs'
      have hyl : X.env.scope.names.lookup y = some .local := by
        split at a1
        · assumption
        · cases a1
      have sw := sw_true (elt := elt) (gs := [⟨t, iter, ifs, 0⟩]) (l := pos.line) (env := X.env) hk hyl a2 (not_f a3)
      unfold chkE at c
      obtain ⟨c, c6⟩ := and2 c
      obtain ⟨c, c5⟩ := and2 c
      obtain ⟨c1, c2, c3, c4⟩ := and4 c
      split at c3
      · rename_i as hi
        have p := (comp_parts (elt := elt) (pos := p2) g.toGx tk c1 c2 c4 hi c3 c5 c6 (sound es).2 (sound cc).1 (sound el).1).2 i y py pos hy' hyl sw
        exact ⟨mono_PS p fun Dn σ H h => tF_of_tE h, fun _ => p⟩
      · cases c3
    · exact plain (sw_list hk (by cases z : swB X.env.scope y py (.ListComp elt [⟨t, iter, ifs, 0⟩] sc2 p2) with | true => exact absurd z hs | false => rfl))
  · exact plain (sw_false (by cases z : isComp e with | true => exact absurd z hc | false => rfl))
end
end EV

/-! EvStm3: lists that are written. -/
namespace EV
open PySem PySem.Spec PyProof.Rows L2
section
variable {Y : Fix} {k : Nat} {N : List Str} {W : WX} {σ : L2.St} {I H H0 I' H' : Hp} {S S' : Sto} {μ μ' : List Addr} {sc : Scope} {X : Cx} {B : Bs} {Dn : Ends} {ρ : Env}
theorem putL_own {i : Nat} {es ds : List D} (e : ρ[i]? = some (.own es)) : putL ρ i ds S = .ok (ρ.set i (.own ds)) S := by
  unfold putL
  rw [e]
  rfl
theorem putL_cell {i n : Nat} {es ds : List D} (e : ρ[i]? = some (.val (.cell n))) (ec : S[n]? = some (.lst es)) : putL ρ i ds S = .ok ρ (S.set n (.lst ds)) := by
  unfold putL
  rw [e]
  show (match S[n]? with
    | some (.lst _) => (.ok ρ (S.set n (.lst ds)) : Res Env)
    | _ => .stuck) = _
  rw [ec]
/-- a name's list: read, and written anew -/
theorem St.list (st : St Y B I H S μ ρ σ) {i : Nat} {ds : List D} (h : getL ρ i S = .ok ds S') : S' = S ∧ ∃ a vs, σ[i]? = some (some (.ref a)) ∧ H a = some (.lst vs) ∧ ds.length ≤ sizeLine ∧ Reps Y I μ ds vs ∧
    ∀ (ds' : List D) (vs' : List V), ds'.length ≤ sizeLine → Reps Y I μ ds' vs' → ∃ ρ' S2, putL ρ i ds' S = .ok ρ' S2 ∧ St Y B I (upd H a (.lst vs')) S2 μ ρ' σ := by
  unfold getL at h
  cases e : ρ[i]? with
  | none => rw [e] at h; cases h
  | some sl =>
    rw [e] at h
    cases sl with
    | none => cases h
    | own es =>
      cases h
      refine ⟨rfl, ?_⟩
      obtain ⟨a, vs, e1, e2, e3, e4, e5, r⟩ := st.en.own i ds e
      refine ⟨a, vs, e1, e2, e5, r, fun ds' vs' z' r' => ⟨ρ.set i (.own ds'), S, putL_own e, ?_⟩⟩
      have hl := (List.getElem?_eq_some_iff.mp e).1
      have get : ∀ (j : Nat) (fs : List D), (ρ.set i (.own ds'))[j]? = some (.own fs) → ∃ fs', ρ[j]? = some (.own fs') ∧ (i = j ∧ fs = ds' ∨ i ≠ j ∧ fs = fs') := fun j fs q => by
        by_cases hj : i = j
        · subst hj
          rw [List.getElem?_set_self hl] at q
          cases q
          exact ⟨ds, e, .inl ⟨rfl, rfl⟩⟩
        · rw [List.getElem?_set_ne hj] at q
          exact ⟨fs, q, .inr ⟨hj, rfl⟩⟩
      refine ⟨wd_put st.w e3 e4, ⟨by rw [List.length_set]; exact st.en.len, fun j d q => ?_, fun j fs q => ?_, fun j l b fs gs q1 q2 q3 q4 => ?_⟩, ext_put st.x (st.fr i ds a e e1), fun j fs b q1 q2 => ?_, st.lo, st.ln⟩
      · by_cases hj : i = j
        · subst hj
          rw [List.getElem?_set_self hl] at q
          cases q
        · rw [List.getElem?_set_ne hj] at q
          exact st.en.val j d q
      · obtain ⟨fs', q', hh⟩ := get j fs q
        rcases hh with ⟨hj, hf⟩ | ⟨hj, hf⟩
        · subst hj; subst hf
          exact ⟨a, vs', e1, upd_same, e3, e4, z', r'⟩
        · subst hf
          obtain ⟨b, us, f1, f2, f3, f4, f5, r2⟩ := st.en.own j _ q'
          refine ⟨b, us, f1, ?_, f3, f4, f5, r2⟩
          rw [upd_ne fun z => hj (st.en.sep i j b ds _ e q' (by rw [z]; exact e1) f1)]
          exact f2
      · obtain ⟨fs', q1', _⟩ := get j fs q1
        obtain ⟨gs', q2', _⟩ := get l gs q2
        exact st.en.sep j l b fs' gs' q1' q2' q3 q4
      · obtain ⟨fs', q1', _⟩ := get j fs q1
        exact st.fr j fs' b q1' q2
    | val d =>
      cases d with
      | cell n =>
        have h' : (match S[n]? with
          | some (.lst ds) => (.ok ds S : Res (List D))
          | _ => .stuck) = .ok ds S' := h
        cases ec : S[n]? with
        | none => rw [ec] at h'; cases h'
        | some c =>
          rw [ec] at h'
          cases c with
          | ins _ => cases h'
          | lst es =>
            cases h'
            refine ⟨rfl, ?_⟩
            obtain ⟨v, ev, a, rfl, m⟩ := st.en.val i _ e
            obtain ⟨a', m', hi, vs, h1, h2, h3⟩ := st.w.cell n _ ec
            rw [m] at m'
            cases m'
            have am : a ∈ μ := List.mem_of_getElem? m
            refine ⟨a, vs, ev, h1, h2, h3, fun ds' vs' z' r' => ⟨ρ, S.set n (.lst ds'), putL_cell e ec, ?_⟩⟩
            refine ⟨⟨fun b u q => ?_, by rw [List.length_set]; exact st.w.len, st.w.nd, fun l c q => ?_⟩, ⟨st.en.len, st.en.val, fun j fs q => ?_, st.en.sep⟩, ⟨st.x.sub, st.x.mu, st.x.new, fun b u q n1 => ?_, fun b u q => ?_, st.x.fresh⟩, st.fr, st.lo, st.ln⟩
            · rw [upd_ne fun z => by rw [z, hi] at q; cases q]
              exact st.w.sub b u q
            · by_cases hl : n = l
              · subst hl
                rw [List.getElem?_set_self (List.getElem?_eq_some_iff.mp ec).1] at q
                cases q
                exact ⟨a, m, hi, vs', upd_same, z', r'⟩
              · rw [List.getElem?_set_ne hl] at q
                obtain ⟨b, f1, f2, f3⟩ := st.w.cell l c q
                have hb : b ≠ a := fun z => by
                  subst z
                  have l1 := (List.getElem?_eq_some_iff.mp m).1
                  exact hl ((List.getElem?_inj l1 st.w.nd).mp (m.trans f1.symm))
                refine ⟨b, f1, f2, ?_⟩
                cases c with
                | lst gs =>
                  obtain ⟨us, g1, g2, g3⟩ := f3
                  exact ⟨us, by rw [upd_ne hb]; exact g1, g2, g3⟩
                | ins _ => exact f3.elim
            · obtain ⟨b, us, f1, f2, f3, f4, f5, r2⟩ := st.en.own j fs q
              exact ⟨b, us, f1, by rw [upd_ne (fun z => f4 (by rw [z]; exact am) : b ≠ a)]; exact f2, f3, f4, f5, r2⟩
            · rw [upd_ne fun z => by
                subst z
                rcases st.x.fresh b am with z | z
                · exact n1 z
                · rw [q] at z; cases z]
              exact st.x.keep b u q n1
            · by_cases z : b = a
              · subst z; exact ⟨_, upd_same⟩
              · rw [upd_ne z]; exact st.x.there b u q
      | _ => cases h
theorem getL_exc {i : Nat} {c : Nat} (h : getL ρ i S = .exc c S') : False := by
  unfold getL at h
  cases e : ρ[i]? with
  | none => rw [e] at h; cases h
  | some sl =>
    rw [e] at h
    cases sl with
    | none => cases h
    | own es => cases h
    | val d =>
      cases d with
      | cell n =>
        have h' : (match S[n]? with
          | some (.lst ds) => (.ok ds S : Res (List D))
          | _ => .stuck) = .exc c S' := h
        cases ec : S[n]? with
        | none => rw [ec] at h'; cases h'
        | some c' =>
          rw [ec] at h'
          cases c' with
          | ins _ => cases h'
          | lst es => cases h'
      | _ => cases h
/-- .. within a run -/
theorem getL_aft {i : Nat} {f : List D → M Out} (st : St Y B I H S μ ρ σ) (h : AftS Y W Dn B (lftA ρ (getL ρ i) f S)) : ∃ ds, getL ρ i S = .ok ds S ∧ AftS Y W Dn B (f ds S) := by
  unfold lftA at h
  cases e : getL ρ i S with
  | ok d S1 =>
    rw [e] at h
    obtain ⟨rfl, _⟩ := st.list e
    exact ⟨d, rfl, h⟩
  | exc c S1 => exact (getL_exc e).elim
  | stuck => rw [e] at h; exact h.elim
theorem bndO {α : Type} {m : M α} {f : α → M Out} {G : Res Out → Prop} (h : G ((m >>= f) S)) (no : ¬ G .stuck) (nx : ∀ c S1, ¬ G (.exc c S1)) : ∃ a S1, m S = .ok a S1 ∧ G (f a S1) := by
  have h' : G (M.bnd m f S) := h
  unfold M.bnd at h'
  cases e : m S with
  | ok a S1 => rw [e] at h'; exact ⟨a, S1, rfl, h'⟩
  | exc c S1 => rw [e] at h'; exact absurd h' (nx c S1)
  | stuck => rw [e] at h'; exact absurd h' no
theorem bndS {α : Type} {m : M α} {f : α → M Out} (h : AftS Y W Dn B ((m >>= f) S)) : ∃ a S1, m S = .ok a S1 ∧ AftS Y W Dn B (f a S1) := bndO h (fun z => z) (fun _ _ z => z)

/-! ### methods of lists -/
theorem tyV_lst {K : PySem.W.Frag} {a : Addr} {vs : List V} (h : H a = some (.lst vs)) : tyV K "list" (.ref a) H := .inl ⟨rfl, vs, SqL.of h⟩
theorem seqIndex_ixN {n : Nat} {i : Int} {j : Nat} (h : EV.ixN n i = some j) : seqIndex? i n = some j ∧ j < n := by
  unfold EV.ixN at h
  by_cases h0 : 0 ≤ i
  · rw [if_pos h0] at h
    by_cases h1 : i < n
    · rw [if_pos h1] at h
      cases h
      exact ⟨seqIndex_of h0 h1, by omega⟩
    · rw [if_neg h1] at h; cases h
  · rw [if_neg h0] at h
    by_cases h1 : -(n : Int) ≤ i
    · rw [if_pos h1] at h
      cases h
      exact ⟨seqIndex_neg (by omega) h1, by omega⟩
    · rw [if_neg h1] at h; cases h
/-- x.m(e) -/
theorem pe_m1 {i : Nat} {x m : Str} {id : String} {e : Expr} {p apos cpos : Pos} {t : TA} {r : V → List V → Hp → VK → Prop} (g : GxS Y k N sc X) (pa : PlainAttrs "list") (slot : Slot "list" m id) (hty : typeOf (.builtin id) = pure (.type "method_descriptor")) (hm : MtM X id r) (hy : N[i]? = some x) (hv : visB sc x = true)
    (hs : notStar e = true) (hline : (apos.endLine == cpos.line) = true) (ha : PA X [e] t) : PE X (.Call (.Attribute (.Name x p) m apos) [e] [] cpos) (tBM X.K "list" r (tVar i) t) := by
  obtain ⟨v1, v2, v3⟩ := vis_of hv g.hs
  have s1 : starEach [e] X.env = [(false, eval e X.env)] := star_cons hs
  exact pe_bm pa slot hty hm (pe_var (by rw [g.hN]; exact hy) v1 v2 v3) ha (by rfl) (by rw [s1]; rfl) hline s1 (star_any fun x m => (List.not_mem_nil m).elim)
theorem sw_call {f : Expr} {es : List Expr} {ks : List Keyword} {pos : Pos} {tg : Option Expr} {l : Nat} {env : PySem.Env} : swapsWith (.Call f es ks pos) tg l env = pure false := rfl
theorem s_append {i : Nat} {x : Str} {e : Expr} {m : ME} {p apos cpos pos : Pos} (g : GxS Y k N sc X) (tk : Takes X W) (hy : N[i]? = some x) (hv : visB sc x = true) (hs : notStar e = true) (hline : (apos.endLine == cpos.line) = true) (c : chkE (names Y) N m sc e = true) :
    PS X (.Expr (.Call (.Attribute (.Name x p) "append" apos) [e] [] cpos) pos) (tS Y k W (.append i m)) := by
  have snd := (sound (Y := Y) (k := k) (N := N) m).1.run X sc e W g.toGx tk c
  refine mono_PS (ps_expr (pe_m1 g PySem.F.plainAttrs_list PySem.F.slot_list_append PySem.F.type_list_append mt_append hy hv hs hline (s_cons hs snd.2.1 s_nil.1)) sw_call) fun Dn σ H ⟨B, I, S, μ, ρ, st, q⟩ => ?_
  obtain ⟨ds, e1, q1⟩ := getL_aft st q
  obtain ⟨_, a, vs, f1, f2, f3, f4, f5⟩ := st.list e1
  have fl : ∀ {ρ : Env} {ds : List D} {S : Sto}, getL ρ i S = .ok ds S → True := fun _ => trivial
  refine ⟨.ref a, f1, tyV_lst f2, I, S, μ, ρ, st.w, st.en, ?_⟩
  have e0 : evA (cl Y k) (.acons m .anil) ρ = (evE (cl Y k) m ρ >>= fun d => pure [d]) := rfl
  rw [e0]
  have q2 := lft_aft st q1
  cases e2 : evE (cl Y k) m ρ S with
  | stuck => rw [e2] at q2; exact q2.elim
  | exc c S1 => rw [bnd_exc e2]; rw [e2] at q2; exact q2
  | ok d S1 =>
    rw [bnd_at e2]
    rw [e2] at q2
    intro I1 H1 μ1 x1 w1 us rs
    have st1 := st.ext x1 w1
    obtain ⟨ds1, S2, e3, q3⟩ := bndS (q2 I1 H1 μ1 x1 w1)
    obtain ⟨rfl, b, ws, g1, g2, g3, g4, g5⟩ := st1.list e3
    rw [f1] at g1
    cases g1
    obtain ⟨v, r, eu, rv, rn⟩ := rs
    cases (show r = [] from rn)
    split at q3
    · rename_i hl
      have hlen := g4.length
      obtain ⟨ρ', S3, e4, st3⟩ := g5 (ds1 ++ [d]) (ws ++ [v]) (by rw [List.length_append]; exact hl) (g4.append (Reps.cons rv Reps.nil))
      obtain ⟨ρ2, S4, e5, q4⟩ := bndS q3
      rw [e4] at e5
      cases e5
      refine ⟨a, ws, v, rfl, eu, g2, by rw [hlen]; exact hl, ?_⟩
      exact q4 σ I1 _ μ1 st3
    · exact q3.elim
end
end EV

/-! EvStm4: more statements. -/
namespace EV
open PySem PySem.Spec PyProof.Rows L2
section
variable {Y : Fix} {k : Nat} {N : List Str} {W : WX} {σ : L2.St} {I H H0 I' H' : Hp} {S S' : Sto} {μ μ' : List Addr} {sc : Scope} {X : Cx} {B : Bs} {Dn : Ends} {ρ : Env}
/-- a run, then more -/
theorem aftB {α β : Type} {m : M α} {f : α → M β} {P : α → Hp → Hp → Sto → List Addr → Prop} {G : β → Hp → Hp → Sto → List Addr → Prop} (h : Aft Y W σ I H μ (m S) P) (hf : ∀ a I1 H1 S1 μ1, m S = .ok a S1 → Ext I H μ I1 H1 μ1 → Wd Y I1 H1 S1 μ1 → P a I1 H1 S1 μ1 → Aft Y W σ I1 H1 μ1 (f a S1) G)
    (hq : ∀ a S1, m S = .ok a S1 → (∃ b, f a S1 = .ok b S1)) : Aft Y W σ I H μ ((m >>= f) S) G := by
  cases e : m S with
  | stuck => rw [e] at h; exact h.elim
  | exc c S1 => rw [bnd_exc e]; rw [e] at h; exact h
  | ok a S1 =>
    rw [bnd_at e]
    rw [e] at h
    obtain ⟨b, eb⟩ := hq a S1 e
    rw [eb]
    intro I1 H1 μ1 x1 w1
    have q := hf a I1 H1 S1 μ1 e x1 w1 (h I1 H1 μ1 x1 w1)
    rw [eb] at q
    exact q.here w1
/-- one argument -/
theorem arg1 {m : ME} {G : List D → Hp → Hp → Sto → List Addr → Prop} (h : Aft Y W σ I H μ (evE (cl Y k) m ρ S) fun d I' H' S' μ' => G [d] I' H' S' μ') : Aft Y W σ I H μ (evA (cl Y k) (.acons m .anil) ρ S) G := by
  have e0 : evA (cl Y k) (.acons m .anil) ρ = (evE (cl Y k) m ρ >>= fun d => pure [d]) := rfl
  rw [e0]
  exact aftB h (fun a I1 H1 S1 μ1 e x w q => fun I2 H2 μ2 x2 w2 => by
    have := h
    rw [e] at this
    exact this I2 H2 μ2 (x.trans x2) w2) fun a S1 e => ⟨[a], rfl⟩
theorem arg1V {m : ME} {G : List D → Hp → Hp → Sto → List Addr → Prop} (h : Aft Y W σ I H μ (via ρ m (evE (cl Y k) m ρ) S) fun d I' H' S' μ' => G [d] I' H' S' μ') : Aft Y W σ I H μ (evV (cl Y k) (.acons m .anil) ρ S) G := by
  have e0 : evV (cl Y k) (.acons m .anil) ρ = (via ρ m (evE (cl Y k) m ρ) >>= fun d => pure [d]) := rfl
  rw [e0]
  exact aftB h (fun a I1 H1 S1 μ1 e x w q => fun I2 H2 μ2 x2 w2 => by
    have := h
    rw [e] at this
    exact this I2 H2 μ2 (x.trans x2) w2) fun a S1 e => ⟨[a], rfl⟩
theorem s_extend {i : Nat} {x : Str} {e : Expr} {m : ME} {p apos cpos pos : Pos} (g : GxS Y k N sc X) (tk : Takes X W) (hy : N[i]? = some x) (hv : visB sc x = true) (hs : notStar e = true) (hline : (apos.endLine == cpos.line) = true) (c : chkE (names Y) N m sc e = true) :
    PS X (.Expr (.Call (.Attribute (.Name x p) "extend" apos) [e] [] cpos) pos) (tS Y k W (.extend i m)) := by
  have snd := (sound (Y := Y) (k := k) (N := N) m).1.run X sc e W g.toGx tk c
  refine mono_PS (ps_expr (pe_m1 g PySem.F.plainAttrs_list PySem.F.slot_list_extend PySem.F.type_list_extend mt_extend hy hv hs hline (s_consV hs snd.2.2.1 s_nil.2)) sw_call) fun Dn σ H ⟨B, I, S, μ, ρ, st, q⟩ => ?_
  obtain ⟨ds, e1, q1⟩ := getL_aft st q
  obtain ⟨_, a, vs, f1, f2, f3, f4, f5⟩ := st.list e1
  refine ⟨.ref a, f1, tyV_lst f2, I, S, μ, ρ, st.w, st.en, arg1V ((lft_aft st q1).mono fun d I1 H1 S1 μ1 x1 w1 q2 us rs => ?_)⟩
  have st1 := st.ext x1 w1
  obtain ⟨ds1, S2, e3, q3⟩ := bndS q2
  obtain ⟨rfl, b, ws, g1, g2, g3, g4, g5⟩ := st1.list e3
  rw [f1] at g1
  cases g1
  obtain ⟨v, r, eu, rv, rn⟩ := rs
  cases (show r = [] from rn)
  obtain ⟨d', S3, e4, q4⟩ := bndS q3
  obtain ⟨rfl, l⟩ := rv.look w1 e4
  split at q4
  · rename_i es
    split at q4
    · rename_i hl
      obtain ⟨c', zs, ev, h1, h2, h3⟩ := l.lst w1.sub
      subst ev
      have l1 := g4.length
      have l2 := h3.length
      obtain ⟨ρ', S4, e5, st4⟩ := g5 (ds1 ++ es) (ws ++ zs) (by rw [List.length_append]; exact hl) (g4.append h3)
      obtain ⟨ρ2, S5, e6, q5⟩ := bndS q4
      rw [e5] at e6
      cases e6
      exact ⟨a, c', ws, zs, rfl, eu, g2, h1, by rw [l1, l2]; exact hl, q5 σ I1 _ μ1 st4⟩
    · exact q4.elim
  · exact q4.elim
/-! ### assignments -/
theorem s_set {i : Nat} {m : ME} {e : Expr} {y : Str} {py pos : Pos} (g : GxS Y k N sc X) (tk : Takes X W) (hy : N[i]? = some y) (hl : locB sc y = true) (c : chkE (names Y) N m sc e = true) : PS X (.Assign [.Name y py] e pos) (tS Y k W (.set i m)) :=
  mono_PS (asg_name g tk hy hl c).1 fun Dn σ H h => asg_set h
theorem s_own {i : Nat} {m : ME} {e : Expr} {y : Str} {py pos : Pos} (g : GxS Y k N sc X) (tk : Takes X W) (hy : N[i]? = some y) (hl : locB sc y = true) (c : chkE (names Y) N m sc e = true) (hf : frs m = true) : PS X (.Assign [.Name y py] e pos) (tS Y k W (.setOwn i m)) :=
  mono_PS ((asg_name g tk hy hl c).2 hf) fun Dn σ H h => asg_own h
theorem s_cell {i : Nat} {m : ME} {e : Expr} {y : Str} {py pos : Pos} (g : GxS Y k N sc X) (tk : Takes X W) (hy : N[i]? = some y) (hl : locB sc y = true) (c : chkE (names Y) N m sc e = true) (hf : frs m = true) : PS X (.Assign [.Name y py] e pos) (tS Y k W (.setCell i m)) :=
  mono_PS ((asg_name g tk hy hl c).2 hf) fun Dn σ H h => asg_cell h
theorem s_expr {m : ME} {e : Expr} {pos : Pos} (g : GxS Y k N sc X) (tk : Takes X W) (c : chkE (names Y) N m sc e = true) (hc : isComp e = false) : PS X (.Expr e pos) (tS Y k W (.expr m)) :=
  mono_PS (ps_expr ((sound (Y := Y) (k := k) (N := N) m).1.run X sc e W g.toGx tk c).2.1 (sw_false hc)) fun Dn σ H ⟨B, I, S, μ, ρ, st, q⟩ =>
    ⟨I, S, μ, ρ, st.w, st.en, (lft_aft st q).mono fun d I1 H1 S1 μ1 x1 w1 q1 v r => q1 σ I1 H1 μ1 (st.ext x1 w1)⟩
theorem s_ret {m : ME} {e : Expr} {pos : Pos} (g : GxS Y k N sc X) (tk : Takes X W) (c : chkE (names Y) N m sc e = true) : PS X (.Return (some e) pos) (tS Y k W (.ret m)) :=
  mono_PS (ps_ret ((sound (Y := Y) (k := k) (N := N) m).1.run X sc e W g.toGx tk c).2.1) fun Dn σ H ⟨B, I, S, μ, ρ, st, q⟩ =>
    ⟨I, S, μ, ρ, st.w, st.en, (lft_aft st q).mono fun d I1 H1 S1 μ1 x1 w1 q1 v r => q1 I1 H1 μ1 (st.ext x1 w1).x w1 v r⟩
theorem s_retN {pos : Pos} : PS X (.Return none pos) (tS Y k W .retN) :=
  mono_PS ps_retN fun Dn σ H ⟨B, I, S, μ, ρ, st, q⟩ => q I H μ st.x st.w .non rfl
theorem s_never {s : Stmt} : PS X s (tS Y k W .never) := mono_PS ps_never fun Dn σ H ⟨B, I, S, μ, ρ, st, q⟩ => q.elim
theorem s_if {c : ME} {a b : MS} {t : Expr} {p q : List Stmt} {pos : Pos} (g : GxS Y k N sc X) (tk : Takes X W) (hc : chkE (names Y) N c sc t = true) (ha : PSs X p (tS Y k W a)) (hb : PSs X q (tS Y k W b)) : PS X (.If t p q pos) (tS Y k W (.ife c a b)) :=
  mono_PS (ps_if ((sound (Y := Y) (k := k) (N := N) c).1.run X sc t W g.toGx tk hc).2.2.2.1 ha hb) fun Dn σ H ⟨B, I, S, μ, ρ, st, q⟩ => by
    have q' : AftS Y W Dn B (lftA ρ (evT (cl Y k) c ρ) (fun t => if t then ex (cl Y k) Y.T.F a ρ else ex (cl Y k) Y.T.F b ρ) S) := q
    refine ⟨I, S, μ, ρ, st.w, st.en, (lftA_aft st q').mono fun t I1 H1 S1 μ1 x1 w1 q1 => ?_⟩
    cases t with
    | true => exact ⟨B, I1, S1, μ1, ρ, st.ext x1 w1, q1⟩
    | false => exact ⟨B, I1, S1, μ1, ρ, st.ext x1 w1, q1⟩
/-! ### loops -/
/-- a body's outcome within a loop -/
theorem turn_aft {m : M Out} {f : Env → M Out} (h : AftS Y W Dn B ((m >>= fun o => match o with
      | .nx ρ2 => f ρ2
      | .ct ρ2 => f ρ2
      | o => pure o) S)) (N : L2.St → Hp → Prop) (hN : ∀ ρ S1, AftS Y W Dn B (f ρ S1) → ∀ σ I H μ, St Y B I H S1 μ ρ σ → N σ H) {bk : L2.St → Hp → Prop} : AftS Y W { Dn with nx := N, ct := N, bk := bk } B (m S) := by
  obtain ⟨o, S1, e, h⟩ := bndS h
  rw [e]
  cases o with
  | nx ρ => exact fun σ I H μ st => hN ρ S1 h σ I H μ st
  | ct ρ => exact fun σ I H μ st => hN ρ S1 h σ I H μ st
  | ret d => exact h
  | thr c ρ => exact h
theorem s_while {c : ME} {a : MS} {t : Expr} {p : List Stmt} {pos : Pos} (g : GxS Y k N sc X) (tk : Takes X W) (hc : chkE (names Y) N c sc t = true) (ha : PSs X p (tS Y k W a)) : PS X (.While t p [] pos) (tS Y k W (.whl c a)) :=
  mono_PS (ps_while g.pass ((sound (Y := Y) (k := k) (N := N) c).1.run X sc t W g.toGx tk hc).2.2.2.1 ha) fun Dn σ H ⟨B, I, S, μ, ρ, st, q⟩ => by
    refine ⟨fun m σ H => ∃ I S μ ρ, St Y B I H S μ ρ σ ∧ AftS Y W Dn B (whlL (evT (cl Y k) c) (ex (cl Y k) Y.T.F a) m ρ S), ⟨Y.T.F, I, S, μ, ρ, st, q⟩, ?_⟩
    rintro m σ H ⟨I, S, μ, ρ, st, q⟩
    cases m with
    | zero => exact q.elim
    | succ m =>
      refine ⟨I, S, μ, ρ, st.w, st.en, (lftA_aft st q).mono fun t I1 H1 S1 μ1 x1 w1 q1 => ?_⟩
      have st1 := st.ext x1 w1
      cases t with
      | false => exact q1 σ I1 H1 μ1 st1
      | true =>
        rw [if_pos rfl] at q1
        dsimp only
        rw [if_pos rfl]
        refine ⟨fun σ' H' => ∃ m', m' < m + 1 ∧ ∃ I S μ ρ, St Y B I H' S μ ρ σ' ∧ AftS Y W Dn B (whlL (evT (cl Y k) c) (ex (cl Y k) Y.T.F a) m' ρ S), fun σ' H' z => z, B, I1, S1, μ1, ρ, st1, ?_⟩
        exact turn_aft q1 _ fun ρ2 S2 h2 σ2 I2 H2 μ2 st2 => ⟨m, Nat.lt_succ_self m, I2, S2, μ2, ρ2, st2, h2⟩
theorem AftS.base {B' : Bs} {r : Res Out} (h : AftS Y W Dn B r) (e : B'.I = B.I ∧ B'.H = B.H ∧ B'.μ = B.μ) (h1 : Same B.J B'.J) (h2 : B.ν <+: B'.ν) : AftS Y W Dn B' r := by
  have tr : ∀ {I H S μ ρ σ}, St Y B' I H S μ ρ σ → St Y B I H S μ ρ σ := fun st => ⟨st.w, st.en, by
    have := st.x
    rw [e.1, e.2.1, e.2.2] at this
    exact this, fun i ds a p q => by
    have := st.fr i ds a p q
    rw [e.2.1] at this
    exact this, h1.trans st.lo, h2.trans st.ln⟩
  cases r with
  | ok o S1 =>
    cases o with
    | nx ρ => exact fun σ I H μ st => h σ I H μ (tr st)
    | ct ρ => exact fun σ I H μ st => h σ I H μ (tr st)
    | ret d => exact fun I H μ x => h I H μ (by rw [e.1, e.2.1, e.2.2] at x; exact x)
    | thr c ρ => exact fun σ I H μ st => h σ I H μ (tr st)
  | exc c S1 => exact h
  | stuck => exact h
/-- targets bound -/
theorem St.bindL {Q : L2.St → Hp → Prop} : ∀ {is : List Nat} {ds : List D} {vs : List V} {ρ ρ' : Env} {σ : L2.St}, St Y B I H S μ ρ σ → Reps Y I μ ds vs → EV.bindL is ds ρ = some ρ' → (∀ σ', St Y B I H S μ ρ' σ' → Q σ' H) → (is.foldr (fun i g => gCons (gName i) g) gNil) vs σ H Q
  | [], [], vs, ρ, ρ', σ, st, r, e, k => by
    cases e
    exact ⟨r, k σ st⟩
  | [], _ :: _, _, _, _, _, _, _, e, _ => by cases e
  | _ :: _, [], _, _, _, _, _, _, e, _ => by cases e
  | i :: is, d :: ds, vs, ρ, ρ', σ, st, ⟨v, r, e1, r1, r2⟩, e, k => by
    subst e1
    exact ⟨v, r, rfl, St.bindL (is := is) (st.setV r1) r2 e k⟩
theorem bindL_len : ∀ {is : List Nat} {ds : List D} {ρ ρ' : Env}, EV.bindL is ds ρ = some ρ' → ds.length = is.length
  | [], [], _, _, _ => rfl
  | [], _ :: _, _, _, e => by cases e
  | _ :: _, [], _, _, e => by cases e
  | _ :: is, _ :: ds, _, _, e => by rw [List.length_cons, List.length_cons, bindL_len (is := is) e]
theorem St.bindT {Q : L2.St → Hp → Prop} {tg : Tg} {d : D} {v : V} {ρ' : Env} {S' : Sto} (st : St Y B I H S μ ρ σ) (r : Rep Y I μ d v) (e : EV.bindT tg d ρ S = .ok ρ' S') (k : ∀ σ', St Y B I H S μ ρ' σ' → Q σ' H) : S' = S ∧ gT Y.K tg v σ H Q := by
  cases tg with
  | one i =>
    cases e
    exact ⟨rfl, k _ (st.setV r)⟩
  | many is =>
    cases d with
    | tup ds =>
      have e' : (match EV.bindL is ds ρ with
        | some ρ' => (pure ρ' : M Env)
        | none => M.stuck) S = .ok ρ' S' := e
      cases eb : EV.bindL is ds ρ with
      | none => rw [eb] at e'; cases e'
      | some ρ2 =>
        rw [eb] at e'
        cases e'
        obtain ⟨a, vs, rfl, h1, z, rs⟩ := r
        exact ⟨rfl, a, vs, rfl, SqT.of (st.w.sub _ _ h1), by rw [rs.length, bindL_len eb], st.bindL rs eb k⟩
    | _ => cases e
theorem s_for {q : It} {es : ME} {tg : Tg} {a : MS} {t iter : Expr} {p : List Stmt} {as : List Expr} {pos : Pos} (g : GxS Y k N sc X) (tk : Takes X W) (hT : chkT N q sc tg t = true) (hi : iterArgs sc q iter = some as) (hc : chkA (names Y) N es sc as = true) (ha : PSs X p (tS Y k W a)) : PS X (.For t iter p [] pos) (tS Y k W (.for_ q es tg a)) := by
  refine mono_PS (ps_for g.pass g.calm (s_iter g.toGx tk (sound es).2 false hi hc (tup_of hT)) (pg_of g.toGx hT) ha (folded_of hi hc _)) fun Dn σ H ⟨B, I, S, μ, ρ, st, q⟩ => ?_
  refine ⟨I, S, μ, ρ, st.w, st.en, (lftA_aft st q).mono fun z I1 H1 S1 μ1 x1 w1 q1 J wk => ?_⟩
  obtain ⟨as', bs, ds⟩ := z
  obtain ⟨zl, wk⟩ := wk
  dsimp only at q1 wk zl
  have st1 := st.ext x1 w1
  let B' : Bs := ⟨B.I, B.H, B.μ, I1, μ1⟩
  have stb : St Y B' I1 H1 S1 μ1 ρ σ := ⟨st1.w, st1.en, st1.x, st1.fr, Same.refl _, List.prefix_refl _⟩
  have q2 : AftS Y W Dn B' (forL (still as' bs) tg (ex (cl Y k) Y.T.F a) ds ρ S1) := AftS.base q1 ⟨rfl, rfl, rfl⟩ st1.lo st1.ln
  generalize hck : still as' bs = ck at q2 wk
  have quiet : Quiet ck := by
    rw [← hck]
    exact quiet_still as' bs
  refine ⟨fun i m σ H => ∃ I S μ ρ, m = ds.length - i ∧ i ≤ ds.length ∧ St Y B' I H S μ ρ σ ∧ AftS Y W Dn B' (forL ck tg (ex (cl Y k) Y.T.F a) (ds.drop i) ρ S), ⟨_, I1, S1, μ1, ρ, rfl, Nat.zero_le _, stb, q2⟩, ?_⟩
  rintro i m σ H ⟨I, S, μ, ρ, em, hi', st, q⟩
  have later : ck S ≠ .stuck → Later Y false I1 H1 μ1 I H S μ ck := fun hs => ⟨st.lo, st.ln, st.w, hs, fun z => nomatch z⟩
  by_cases hlt : i < ds.length
  · have hdr : ds.drop i = ds[i] :: ds.drop (i + 1) := List.drop_eq_getElem_cons hlt
    rw [hdr] at q
    have q' : AftS Y W Dn B' ((ck >>= fun _ => EV.bindT tg ds[i] ρ >>= fun ρ' => ex (cl Y k) Y.T.F a ρ' >>= fun o => match o with
      | .nx ρ2 => forL ck tg (ex (cl Y k) Y.T.F a) (ds.drop (i + 1)) ρ2
      | .ct ρ2 => forL ck tg (ex (cl Y k) Y.T.F a) (ds.drop (i + 1)) ρ2
      | o => pure o) S) := q
    rcases quiet S with e0 | ⟨u, e0⟩
    · rw [bnd_stuck e0] at q'; exact q'.elim
    rw [bnd_at e0] at q'
    have lt := later (by rw [e0]; exact fun z => nomatch z)
    obtain ⟨go, yl⟩ := (wk I H S μ lt i).2 ds[i] (List.getElem?_eq_getElem hlt)
    refine .inr ⟨go, fun σ' H' => ∃ I S μ ρ, i + 1 ≤ ds.length ∧ St Y B' I H' S μ ρ σ' ∧ AftS Y W Dn B' (forL ck tg (ex (cl Y k) Y.T.F a) (ds.drop (i + 1)) ρ S), ?_, ?_⟩
    · rintro σ' H' ⟨I', S', μ', ρ', h1, h2, h3⟩
      exact ⟨ds.length - (i + 1), by omega, I', S', μ', ρ', rfl, h1, h2, h3⟩
    · intro x H2 hy
      obtain ⟨I2, x2, w2, rx⟩ := yl x H2 hy
      have st2 := st.ext x2 w2
      obtain ⟨ρ2, S2, e1, q3⟩ := bndS q'
      rw [g.hK]
      refine (st2.bindT rx e1 fun σ2 st3 => ?_).2
      have eS : S2 = S := (st2.bindT (Q := fun _ _ => True) rx e1 fun _ _ => trivial).1
      subst eS
      exact ⟨B', I2, S2, μ, ρ2, st3, turn_aft q3 _ fun ρ3 S3 h3 σ3 I3 H3 μ3 st4 => ⟨I3, S3, μ3, ρ3, hlt, st4, h3⟩⟩
  · have ei : i = ds.length := by omega
    subst ei
    rw [List.drop_length] at q
    have q' : AftS Y W Dn B' ((ck >>= fun _ => pure (.nx ρ)) S) := q
    rcases quiet S with e0 | ⟨u, e0⟩
    · rw [bnd_stuck e0] at q'; exact q'.elim
    rw [bnd_at e0] at q'
    have lt := later (by rw [e0]; exact fun z => nomatch z)
    refine .inl ⟨(wk I H S μ lt ds.length).1 (Nat.le_refl _), ?_⟩
    have st0 : St Y B' I H S μ ρ σ := st
    exact q' σ I H μ st0
end
end EV

/-! EvStm5: tuples of names, places, pops. -/
namespace EV
open PySem PySem.Spec PyProof.Rows L2
/-- the local names of a tuple of targets, on one line -/
def nmsOf (sc : Scope) (ts : List Expr) : List Str := ts.filterMap fun
  | .Name id pos => if sc.names.lookup id == some .local && pos.line == (ts.head?.map (·.pos.line)).getD 0 then some id else none
  | _ => none
def isStar : Expr → Bool
  | .Starred .. => true
  | _ => false
/-- .. stored from the right -/
def swS (sc : Scope) (ts vs : List Expr) : Bool := (ts.length == 2 || ts.length == 3) && vs.length == ts.length && !(vs.any isStar) && (nmsOf sc ts).length == ts.length && (nmsOf sc ts).eraseDups.length == (nmsOf sc ts).length && !(vs.all (foldedForSure 8)) && !(vs.all (constantsAlone 8))
/-- .. stored from the left -/
def swN (sc : Scope) (ts : List Expr) : Expr → Bool
  | .Tuple vs _ _ => vs.length == ts.length && !(vs.any isStar) && (!(ts.length == 2 || ts.length == 3) || (nmsOf sc ts).length != ts.length || vs.all (foldedForSure 8))
  | _ => true
section
variable {Y : Fix} {k : Nat} {N : List Str} {W : WX} {σ : L2.St} {I H H0 I' H' : Hp} {S S' : Sto} {μ μ' : List Addr} {sc : Scope} {X : Cx} {B : Bs} {Dn : Ends} {ρ : Env}
theorem swapped_eq {ts vs : List Expr} {kt k2 : _} {pt p2 : Pos} {env : PySem.Env} : swappedStores [.Tuple ts kt pt] (.Tuple vs k2 p2) env =
    (if (!(ts.length == 2 || ts.length == 3) || vs.length != ts.length || env.blockKind != .function) = true then pure none else
     if (vs.any isStar) = true then pure none else
     if ((nmsOf env.scope ts).length != ts.length || (nmsOf env.scope ts).eraseDups.length != (nmsOf env.scope ts).length) = true then pure none else
     if (vs.all (foldedForSure 8)) = true then pure none else
     if (vs.all (constantsAlone 8)) = true then (do unsupported "assign.tuple-of-constant-expressions:order-of-the-stores"; pure (some (nmsOf env.scope ts))) else pure (some (nmsOf env.scope ts))) := by
  have e1 : (fun e : Expr => match e with | .Starred .. => true | _ => false) = isStar := by
    funext e; cases e <;> rfl
  unfold swappedStores
  dsimp only
  rfl

theorem sw_some {ts vs : List Expr} {kt k2 : _} {pt p2 : Pos} {env : PySem.Env} (hk : env.scope.kind = .function) (h : swS env.scope ts vs = true) : swappedStores [.Tuple ts kt pt] (.Tuple vs k2 p2) env = pure (some (nmsOf env.scope ts)) := by
  have hb : env.blockKind = .function := by unfold Env.blockKind; rw [hk]; rfl
  unfold swS at h
  simp only [Bool.and_eq_true, Bool.not_eq_true'] at h
  obtain ⟨⟨⟨⟨⟨⟨h1, h2⟩, h3⟩, h4⟩, h5⟩, h6⟩, h7⟩ := h
  have e2 := eq_of_beq h2
  have e4 := eq_of_beq h4
  have e5 := eq_of_beq h5
  rw [swapped_eq, hb, h1, h3, h6, h7, e2, e5, e4]
  simp
theorem sw_no {ts : List Expr} {kt : _} {pt : Pos} {v : Expr} {env : PySem.Env} (hk : env.scope.kind = .function) (h : swN env.scope ts v = true) : swappedStores [.Tuple ts kt pt] v env = pure none := by
  have hb : env.blockKind = .function := by unfold Env.blockKind; rw [hk]; rfl
  cases v with
  | Tuple vs k2 p2 =>
    have h' : (vs.length == ts.length && !(vs.any isStar) && (!(ts.length == 2 || ts.length == 3) || (nmsOf env.scope ts).length != ts.length || vs.all (foldedForSure 8))) = true := h
    simp only [Bool.and_eq_true, Bool.not_eq_true'] at h'
    obtain ⟨⟨h1, h2⟩, h3⟩ := h'
    have e1 := eq_of_beq h1
    rw [swapped_eq, hb, h2, e1]
    by_cases c1 : (!(ts.length == 2 || ts.length == 3)) = true
    · rw [if_pos (by rw [c1]; rfl)]
    · by_cases c2 : ((nmsOf env.scope ts).length != ts.length) = true
      · rw [if_neg (by simp at c1 ⊢; exact c1), if_neg Bool.false_ne_true, if_pos (by rw [c2]; rfl)]
      · have c3 : vs.all (foldedForSure 8) = true := by
          rcases Bool.or_eq_true _ _ ▸ h3 with z | z
          · rcases Bool.or_eq_true _ _ ▸ z with y | y
            · exact absurd y c1
            · exact absurd y c2
          · exact z
        rw [c3, if_neg (by simp at c1 ⊢; exact c1), if_neg Bool.false_ne_true]
        split
        · rfl
        · rw [if_pos rfl]
  | _ => rfl
theorem sw_tup {v : Expr} {ts : List Expr} {kt : _} {pt : Pos} {l : Nat} {env : PySem.Env} : swapsWithSole [.Tuple ts kt pt] v l env = pure false := by
  cases v <;> rfl
theorem sw_sub {v o j : Expr} {pt : Pos} {l : Nat} {env : PySem.Env} : swapsWithSole [.Subscript o j pt] v l env = pure false := by
  cases v <;> rfl
theorem sw_sub2 {v o j : Expr} {pt : Pos} {env : PySem.Env} : swappedStores [.Subscript o j pt] v env = pure none := by
  cases v <;> rfl
theorem kfun (g : GxS Y k N sc X) : X.env.scope.kind = .function := by rw [g.sce]; exact g.kf
/-- a, b = e -/
theorem s_unpack {is : List Nat} {m : ME} {e : Expr} {ts : List Expr} {kt : _} {pt pos : Pos} (g : GxS Y k N sc X) (tk : Takes X W) (ht : chkNs N sc is ts = true) (hw : swN sc ts e = true) (c : chkE (names Y) N m sc e = true) : PS X (.Assign [.Tuple ts kt pt] e pos) (tS Y k W (.unpack is m)) := by
  have pg : PG X (.Tuple ts kt pt) (gT X.K (.many is)) := pg_of (q := .seq) g.toGx (show chkTs N sc is (.Tuple ts kt pt) = true from ht)
  refine mono_PS (ps_asg ((sound (Y := Y) (k := k) (N := N) m).1.run X sc e W g.toGx tk c).2.1 pg sw_tup (sw_no (kfun g) (by rw [g.sce]; exact hw)) rfl) fun Dn σ H ⟨B, I, S, μ, ρ, st, q⟩ => ?_
  refine ⟨I, S, μ, ρ, st.w, st.en, (lft_aft st q).mono fun d I1 H1 S1 μ1 x1 w1 q1 v r => ?_⟩
  obtain ⟨ρ', S2, e1, q2⟩ := bndS q1
  have st1 := st.ext x1 w1
  rw [g.hK]
  have eS := (st1.bindT (Q := fun _ _ => True) r e1 fun _ _ => trivial).1
  subst eS
  exact (st1.bindT r e1 fun σ' st2 => q2 σ' I1 H1 μ1 st2).2
/-- a, b = x, y stored from the right -/
theorem setOwns_vals : ∀ {own : List (Bool × Nat)} {ds : List D} {ρ ρ' : Env}, own.all (fun p => !p.1) = true → setOwns own ds ρ = some ρ' → bindL (own.map (·.2)) ds ρ = some ρ'
  | [], [], _, _, _, e => e
  | [], _ :: _, _, _, _, e => by cases e
  | (b, i) :: is, [], _, _, _, e => by cases b <;> cases e
  | (b, i) :: is, d :: ds, ρ, ρ', h, e => by
    rw [List.all_cons, Bool.and_eq_true] at h
    cases b with
    | true => exact absurd h.1 Bool.false_ne_true
    | false => exact setOwns_vals (own := is) h.2 e
theorem s_par2 {own : List (Bool × Nat)} {i j : Nat} {m : ME} {a b : Expr} {x y : Str} {px py pt p2 pos : Pos} {kt k2 : _} (g : GxS Y k N sc X) (tk : Takes X W) (ho : own.all (fun p => !p.1) = true) (hij : own.map (·.2) = [i, j]) (hi : N[i]? = some x) (hj : N[j]? = some y) (hne : i ≠ j)
    (hx : sc.names.lookup x = some .local) (hy : sc.names.lookup y = some .local) (hn : nmsOf sc [.Name x px, .Name y py] = [x, y]) (hw : swS sc [.Name x px, .Name y py] [a, b] = true) (c : chkA (names Y) N m sc [a, b] = true) :
    PS X (.Assign [.Tuple [.Name x px, .Name y py] kt pt] (.Tuple [a, b] k2 p2) pos) (tS Y k W (.par own m)) := by
  have hs := sw_some (kt := kt) (k2 := k2) (pt := pt) (p2 := p2) (kfun g) (by rw [g.sce]; exact hw)
  rw [g.sce, hn] at hs
  refine mono_PS (ps_par g.calm (nd_of g.toGx) (by rw [g.hN]; exact hi) (by rw [g.hN]; exact hj) hne (by rw [g.sce]; exact hx) (by rw [g.sce]; exact hy) ((sound (Y := Y) (k := k) (N := N) m).2.run X sc [a, b] W g.toGx tk c).1 hs sw_tup) fun Dn σ H ⟨B, I, S, μ, ρ, st, q⟩ => ?_
  refine ⟨I, S, μ, ρ, st.w, st.en, (lftA_aft st q).mono fun ds I1 H1 S1 μ1 x1 w1 q1 vs rs => ?_⟩
  cases e : setOwns own ds ρ with
  | none => rw [e] at q1; exact q1.elim
  | some ρ' =>
    rw [e] at q1
    have eb := setOwns_vals ho e
    rw [hij] at eb
    obtain ⟨v, r, e1, w, r2, e2, e3, h3⟩ := (st.ext x1 w1).bindL (Q := fun σ' H' => Dn.nx σ' H') rs eb fun σ' st2 => q1 σ' I1 H1 μ1 st2
    subst e1 e2 e3
    exact ⟨v, w, rfl, h3⟩
theorem s_par3 {own : List (Bool × Nat)} {i j l : Nat} {m : ME} {a b d : Expr} {x y z : Str} {px py pz pt p2 pos : Pos} {kt k2 : _} (g : GxS Y k N sc X) (tk : Takes X W) (ho : own.all (fun p => !p.1) = true) (hij : own.map (·.2) = [i, j, l]) (hi : N[i]? = some x) (hj : N[j]? = some y) (hl : N[l]? = some z) (hne : i ≠ j) (hne2 : i ≠ l) (hne3 : j ≠ l)
    (hx : sc.names.lookup x = some .local) (hy : sc.names.lookup y = some .local) (hz : sc.names.lookup z = some .local) (hn : nmsOf sc [.Name x px, .Name y py, .Name z pz] = [x, y, z]) (hw : swS sc [.Name x px, .Name y py, .Name z pz] [a, b, d] = true) (c : chkA (names Y) N m sc [a, b, d] = true) :
    PS X (.Assign [.Tuple [.Name x px, .Name y py, .Name z pz] kt pt] (.Tuple [a, b, d] k2 p2) pos) (tS Y k W (.par own m)) := by
  have hs := sw_some (kt := kt) (k2 := k2) (pt := pt) (p2 := p2) (kfun g) (by rw [g.sce]; exact hw)
  rw [g.sce, hn] at hs
  refine mono_PS (ps_par3 g.calm (nd_of g.toGx) (by rw [g.hN]; exact hi) (by rw [g.hN]; exact hj) (by rw [g.hN]; exact hl) hne hne2 hne3 (by rw [g.sce]; exact hx) (by rw [g.sce]; exact hy) (by rw [g.sce]; exact hz) ((sound (Y := Y) (k := k) (N := N) m).2.run X sc [a, b, d] W g.toGx tk c).1 hs sw_tup) fun Dn σ H ⟨B, I, S, μ, ρ, st, q⟩ => ?_
  refine ⟨I, S, μ, ρ, st.w, st.en, (lftA_aft st q).mono fun ds I1 H1 S1 μ1 x1 w1 q1 vs rs => ?_⟩
  cases e : setOwns own ds ρ with
  | none => rw [e] at q1; exact q1.elim
  | some ρ' =>
    rw [e] at q1
    have eb := setOwns_vals ho e
    rw [hij] at eb
    obtain ⟨v, r, e1, w, r2, e2, u, r3, e3, e4, h4⟩ := (st.ext x1 w1).bindL (Q := fun σ' H' => Dn.nx σ' H') rs eb fun σ' st2 => q1 σ' I1 H1 μ1 st2
    subst e1 e2 e3 e4
    exact ⟨v, w, u, rfl, h4⟩
/-- x[j] = e -/
theorem ixN_eq (n : Nat) (i : Int) : L2.ixN n i = EV.ixN n i := rfl
theorem s_setix {i : Nat} {x : Str} {m n : ME} {e j : Expr} {p sp pos : Pos} (g : GxS Y k N sc X) (tk : Takes X W) (hy : N[i]? = some x) (hv : visB sc x = true) (hj : notSlice j = true) (c1 : chkE (names Y) N m sc j = true) (c2 : chkE (names Y) N n sc e = true) :
    PS X (.Assign [.Subscript (.Name x p) j sp] e pos) (tS Y k W (.setix i m n)) := by
  obtain ⟨v1, v2, v3⟩ := vis_of hv g.hs
  have pj := ((sound (Y := Y) (k := k) (N := N) m).1.run X sc j W g.toGx tk c1).2.1
  have pe := ((sound (Y := Y) (k := k) (N := N) n).1.run X sc e W g.toGx tk c2).2.1
  have pg : PG X (.Subscript (.Name x p) j sp) (gSub (tVar i) (tE Y k W m) rSetL) := pg_sub (pe_var (by rw [g.hN]; exact hy) v1 v2 v3) pj set_list (by intro v; cases j <;> first | rfl | cases hj)
  refine mono_PS (ps_asg pe pg sw_sub sw_sub2 rfl) fun Dn σ H ⟨B, I, S, μ, ρ, st, q⟩ => ?_
  refine ⟨I, S, μ, ρ, st.w, st.en, (lft_aft st q).mono fun d I1 H1 S1 μ1 x1 w1 q1 v rv => ?_⟩
  have st1 := st.ext x1 w1
  obtain ⟨ds0, e0, q2⟩ := getL_aft st1 q1
  obtain ⟨_, a, vs0, f1, f2, f3, f4, f5⟩ := st1.list e0
  refine ⟨.ref a, f1, I1, S1, μ1, ρ, st1.w, st1.en, (lft_aft st1 q2).mono fun kd I2 H2 S2 μ2 x2 w2 q3 u ru => ?_⟩
  have st2 := st1.ext x2 w2
  obtain ⟨ds, S3, e3, q4⟩ := bndS q3
  obtain ⟨rfl, b, vs, g1, g2, g3, g4, g5⟩ := st2.list e3
  rw [f1] at g1
  cases g1
  cases kd with
  | int kk =>
    cases (show u = .int kk from ru)
    have q5 : AftS Y W Dn B ((match EV.ixN ds.length kk with
      | some k => putL ρ i (ds.set k d) >>= fun ρ' => pure (Out.nx ρ')
      | none => M.stuck) S3) := q4
    cases e4 : EV.ixN ds.length kk with
    | none => rw [e4] at q5; exact q5.elim
    | some kn =>
      rw [e4] at q5
      obtain ⟨ρ', S4, e5, st4⟩ := g5 (ds.set kn d) (vs.set kn v) (by rw [List.length_set]; exact g3) (g4.set (rv.mono x2.sub x2.mu))
      obtain ⟨ρ2, S5, e6, q6⟩ := bndS q5
      rw [e5] at e6
      cases e6
      exact ⟨a, vs, kk, kn, rfl, rfl, g2, by rw [ixN_eq, g4.length]; exact e4, q6 σ I2 _ μ2 st4⟩
  | _ => exact q4.elim
/-- x.pop(e), dropped -/
theorem ixN_bounds {n : Nat} {i : Int} {j : Nat} (h : EV.ixN n i = some j) (hn : n ≤ sizeLine) : -(2 ^ 63) ≤ i ∧ i < 2 ^ 63 := by
  obtain ⟨_, _, h3, h4⟩ := ixN_seq (show L2.ixN n i = some j from h)
  have hl := line63
  omega
theorem s_popx {i : Nat} {x : Str} {e : Expr} {m : ME} {p apos cpos pos : Pos} (g : GxS Y k N sc X) (tk : Takes X W) (hy : N[i]? = some x) (hv : visB sc x = true) (hs : notStar e = true) (hline : (apos.endLine == cpos.line) = true) (c : chkE (names Y) N m sc e = true) :
    PS X (.Expr (.Call (.Attribute (.Name x p) "pop" apos) [e] [] cpos) pos) (tS Y k W (.popx i m)) := by
  have snd := (sound (Y := Y) (k := k) (N := N) m).1.run X sc e W g.toGx tk c
  refine mono_PS (ps_expr (pe_m1 g PySem.F.plainAttrs_list PySem.F.slot_list_pop PySem.F.type_list_pop mt_popAt hy hv hs hline (s_cons hs snd.2.1 s_nil.1)) sw_call) fun Dn σ H ⟨B, I, S, μ, ρ, st, q⟩ => ?_
  obtain ⟨ds0, e1, q1⟩ := getL_aft st q
  obtain ⟨_, a, vs0, f1, f2, f3, f4, f5⟩ := st.list e1
  refine ⟨.ref a, f1, tyV_lst f2, I, S, μ, ρ, st.w, st.en, arg1 ((lft_aft st q1).mono fun kd I1 H1 S1 μ1 x1 w1 q2 us rs => ?_)⟩
  have st1 := st.ext x1 w1
  obtain ⟨ds, S2, e3, q3⟩ := bndS q2
  obtain ⟨rfl, b, vs, g1, g2, g3, g4, g5⟩ := st1.list e3
  rw [f1] at g1
  cases g1
  obtain ⟨v, r, eu, rv, rn⟩ := rs
  cases (show r = [] from rn)
  cases kd with
  | int kk =>
    cases (show v = .int kk from rv)
    have q5 : AftS Y W Dn B ((match EV.ixN ds.length kk with
      | some k => putL ρ i (ds.eraseIdx k) >>= fun ρ' => pure (Out.nx ρ')
      | none => M.stuck) S2) := q3
    cases e4 : EV.ixN ds.length kk with
    | none => rw [e4] at q5; exact q5.elim
    | some kn =>
      rw [e4] at q5
      obtain ⟨ρ', S4, e5, st4⟩ := g5 (ds.eraseIdx kn) (vs.eraseIdx kn) (Nat.le_trans (len_erase ds kn) g3) g4.eraseIdx
      obtain ⟨ρ2, S5, e6, q6⟩ := bndS q5
      rw [e5] at e6
      cases e6
      obtain ⟨b1, b2⟩ := ixN_bounds e4 g3
      obtain ⟨h1, h2⟩ := seqIndex_ixN e4
      have hlv : kn < vs.length := by rw [g4.length]; exact h2
      exact ⟨a, vs, kk, kn, vs[kn], rfl, eu, g2, b1, b2, by rw [g4.length]; exact h1, List.getElem?_eq_getElem hlv, q6 σ I1 _ μ1 st4⟩
  | _ => exact q3.elim
/-- y = x.pop(e) -/
theorem s_popTo {t i : Nat} {y x : Str} {e : Expr} {m : ME} {py p apos cpos pos : Pos} (g : GxS Y k N sc X) (tk : Takes X W) (ht : N[t]? = some y) (hl : locB sc y = true) (hy : N[i]? = some x) (hv : visB sc x = true) (hs : notStar e = true) (hline : (apos.endLine == cpos.line) = true) (c : chkE (names Y) N m sc e = true) :
    PS X (.Assign [.Name y py] (.Call (.Attribute (.Name x p) "pop" apos) [e] [] cpos) pos) (tS Y k W (.popTo t i m)) := by
  have snd := (sound (Y := Y) (k := k) (N := N) m).1.run X sc e W g.toGx tk c
  obtain ⟨l1, l2⟩ := loc_is g hl
  refine mono_PS (ps_set (nd_of g.toGx) (by rw [g.hN]; exact ht) l1 (pe_m1 g PySem.F.plainAttrs_list PySem.F.slot_list_pop PySem.F.type_list_pop mt_popAt hy hv hs hline (s_cons hs snd.2.1 s_nil.1)) sw_call l2) fun Dn σ H ⟨B, I, S, μ, ρ, st, q⟩ => ?_
  obtain ⟨ds0, e1, q1⟩ := getL_aft st q
  obtain ⟨_, a, vs0, f1, f2, f3, f4, f5⟩ := st.list e1
  refine ⟨.ref a, f1, tyV_lst f2, I, S, μ, ρ, st.w, st.en, arg1 ((lft_aft st q1).mono fun kd I1 H1 S1 μ1 x1 w1 q2 us rs => ?_)⟩
  have st1 := st.ext x1 w1
  obtain ⟨ds, S2, e3, q3⟩ := bndS q2
  obtain ⟨rfl, b, vs, g1, g2, g3, g4, g5⟩ := st1.list e3
  rw [f1] at g1
  cases g1
  obtain ⟨v, r, eu, rv, rn⟩ := rs
  cases (show r = [] from rn)
  cases kd with
  | int kk =>
    cases (show v = .int kk from rv)
    have q5 : AftS Y W Dn B ((match EV.ixN ds.length kk with
      | some k => (match ds[k]? with
        | some d => putL ρ i (ds.eraseIdx k) >>= fun ρ' => pure (Out.nx (setV ρ' t d))
        | none => M.stuck)
      | none => M.stuck) S2) := q3
    cases e4 : EV.ixN ds.length kk with
    | none => rw [e4] at q5; exact q5.elim
    | some kn =>
      rw [e4] at q5
      cases e7 : ds[kn]? with
      | none =>
        have q6 : AftS Y W Dn B ((match ds[kn]? with
          | some d => putL ρ i (ds.eraseIdx kn) >>= fun ρ' => pure (Out.nx (setV ρ' t d))
          | none => M.stuck) S2) := q5
        rw [e7] at q6
        exact q6.elim
      | some d =>
        have q6 : AftS Y W Dn B ((match ds[kn]? with
          | some d => putL ρ i (ds.eraseIdx kn) >>= fun ρ' => pure (Out.nx (setV ρ' t d))
          | none => M.stuck) S2) := q5
        rw [e7] at q6
        obtain ⟨ρ', S4, e5, st4⟩ := g5 (ds.eraseIdx kn) (vs.eraseIdx kn) (Nat.le_trans (len_erase ds kn) g3) g4.eraseIdx
        obtain ⟨ρ2, S5, e6, q7⟩ := bndS q6
        rw [e5] at e6
        cases e6
        obtain ⟨b1, b2⟩ := ixN_bounds e4 g3
        obtain ⟨h1, h2⟩ := seqIndex_ixN e4
        obtain ⟨w, ew, rw'⟩ := g4.get e7
        exact ⟨a, vs, kk, kn, w, rfl, eu, g2, b1, b2, by rw [g4.length]; exact h1, ew, q7 _ I1 _ μ1 (st4.setV rw')⟩
  | _ => exact q3.elim
/-- name += e, of ints -/
theorem s_aug {i : Nat} {x : Str} {e : Expr} {m : ME} {p pos : Pos} (g : GxS Y k N sc X) (tk : Takes X W) (hy : N[i]? = some x) (hl : locB sc x = true) (c : chkE (names Y) N m sc e = true) : PS X (.AugAssign (.Name x p) .Add e pos) (tS Y k W (.aug i .add m)) := by
  have snd := (sound (Y := Y) (k := k) (N := N) m).1.run X sc e W g.toGx tk c
  obtain ⟨l1, l2⟩ := loc_is g hl
  refine mono_PS (ps_aug (nd_of g.toGx) (by rw [g.hN]; exact hy) l1 snd.2.1 ip_add l2) fun Dn σ H ⟨B, I, S, μ, ρ, st, q⟩ => ?_
  have q0 : AftS Y W Dn B (lft ρ (getV ρ i) (fun x => lft ρ (evE (cl Y k) m ρ) fun y => lft ρ (match x, y with
      | .int a, .int b => pure (.int (a + b))
      | _, _ => M.stuck) fun d => pure (.nx (setV ρ i d))) S) := q
  cases hsl : ρ[i]? with
  | none =>
    have z : getV ρ i = M.stuck := by unfold getV; rw [hsl]
    rw [z] at q0
    exact q0.elim
  | some s =>
    cases s with
    | none =>
      have z : getV ρ i = M.stuck := by unfold getV; rw [hsl]
      rw [z] at q0
      exact q0.elim
    | own _ =>
      have z : getV ρ i = M.stuck := by unfold getV; rw [hsl]
      rw [z] at q0
      exact q0.elim
    | val d =>
      have z : getV ρ i = pure d := by unfold getV; rw [hsl]
      rw [z] at q0
      have q1 : AftS Y W Dn B (lft ρ (evE (cl Y k) m ρ) (fun y => lft ρ (match (generalizing := false) d, y with
        | .int a, .int b => pure (.int (a + b))
        | _, _ => M.stuck) fun d => pure (.nx (setV ρ i d))) S) := q0
      obtain ⟨v, ev, r⟩ := st.en.val i d hsl
      refine ⟨v, ev, I, S, μ, ρ, st.w, st.en, (lft_aft st q1).mono fun d2 I1 H1 S1 μ1 x1 w1 q2 u ru => ?_⟩
      cases d with
      | int a =>
        cases d2 with
        | int b =>
          cases (show v = .int a from r)
          cases (show u = .int b from ru)
          have q3 : AftS Y W Dn B (.ok (.nx (setV ρ i (.int (a + b)))) S1) := q2
          exact ⟨a, b, rfl, rfl, q3 _ I1 H1 μ1 ((st.ext x1 w1).setV rfl)⟩
        | _ => exact q2.elim
      | _ => cases d2 <;> exact q2.elim
end
end EV

/-! EvStm6: the check of a body, and that it is right. -/
namespace EV
open PySem PySem.Spec PyProof.Rows L2
def locL (sc : Scope) (x : Str) : Bool := match sc.names.lookup x with
  | some .local => true
  | _ => false
section
variable (Z : Names) (N : List Str) (sc : Scope)
/-- the target of a plain assignment -/
def chkA1 (i : Nat) (y : Str) : Bool := decide (N[i]? = some y) && locB sc y
def chkM (i : Nat) (x : Str) (m y : Str) (apos cpos : Pos) : Bool := decide (N[i]? = some x) && visB sc x && decide (m = y) && (apos.endLine == cpos.line)
mutual
def chk1 : MS → Stmt → Bool
  | .skip, s => match s with
    | .Pass _ => true
    | _ => false
  | .cont, s => match s with
    | .Continue _ => true
    | _ => false
  | .never, _ => true
  | .pub i a, s => chk1 a s
  | .set i e, s => match s with
    | .Assign [.Name y _] v _ => chkA1 N sc i y && chkE Z N e sc v
    | _ => false
  | .setOwn i e, s => match s with
    | .Assign [.Name y _] v _ => chkA1 N sc i y && chkE Z N e sc v && frs e
    | _ => false
  | .setCell i e, s => match s with
    | .Assign [.Name y _] v _ => chkA1 N sc i y && chkE Z N e sc v && frs e
    | _ => false
  | .unpack is e, s => match s with
    | .Assign [.Tuple ts _ _] v _ => chkNs N sc is ts && swN sc ts v && chkE Z N e sc v
    | _ => false
  | .par own es, s => match s with
    | .Assign [.Tuple [.Name x px, .Name y py] _ _] (.Tuple [a, b] _ _) _ => own.all (fun p => !p.1) && (match own.map (·.2) with
      | [i, j] => decide (N[i]? = some x) && decide (N[j]? = some y) && decide (i ≠ j)
      | _ => false) && locL sc x && locL sc y && decide (nmsOf sc [.Name x px, .Name y py] = [x, y]) && swS sc [.Name x px, .Name y py] [a, b] && chkA Z N es sc [a, b]
    | .Assign [.Tuple [.Name x px, .Name y py, .Name z pz] _ _] (.Tuple [a, b, c] _ _) _ => own.all (fun p => !p.1) && (match own.map (·.2) with
      | [i, j, l] => decide (N[i]? = some x) && decide (N[j]? = some y) && decide (N[l]? = some z) && decide (i ≠ j) && decide (i ≠ l) && decide (j ≠ l)
      | _ => false) && locL sc x && locL sc y && locL sc z && decide (nmsOf sc [.Name x px, .Name y py, .Name z pz] = [x, y, z]) && swS sc [.Name x px, .Name y py, .Name z pz] [a, b, c] && chkA Z N es sc [a, b, c]
    | _ => false
  | .append i e, s => match s with
    | .Expr (.Call (.Attribute (.Name x _) m apos) [a] [] cpos) _ => chkM N sc i x m "append" apos cpos && notStar a && chkE Z N e sc a
    | _ => false
  | .extend i e, s => match s with
    | .Expr (.Call (.Attribute (.Name x _) m apos) [a] [] cpos) _ => chkM N sc i x m "extend" apos cpos && notStar a && chkE Z N e sc a
    | _ => false
  | .popx i e, s => match s with
    | .Expr (.Call (.Attribute (.Name x _) m apos) [a] [] cpos) _ => chkM N sc i x m "pop" apos cpos && notStar a && chkE Z N e sc a
    | _ => false
  | .popTo t i e, s => match s with
    | .Assign [.Name y _] (.Call (.Attribute (.Name x _) m apos) [a] [] cpos) _ => chkA1 N sc t y && chkM N sc i x m "pop" apos cpos && notStar a && chkE Z N e sc a
    | _ => false
  | .setix i j e, s => match s with
    | .Assign [.Subscript (.Name x _) jx _] v _ => decide (N[i]? = some x) && visB sc x && notSlice jx && chkE Z N j sc jx && chkE Z N e sc v
    | _ => false
  | .augix _ _ _, _ => false
  | .aug i op e, s => match op, s with
    | .add, .AugAssign (.Name x _) .Add v _ => chkA1 N sc i x && chkE Z N e sc v
    | _, _ => false
  | .expr e, s => match s with
    | .Expr v _ => chkE Z N e sc v && !(isComp v)
    | _ => false
  | .ife c a b, s => match s with
    | .If t x y _ => chkE Z N c sc t && chkS a x && chkS b y
    | _ => false
  | .whl c a, s => match s with
    | .While t x [] _ => chkE Z N c sc t && chkS a x
    | _ => false
  | .for_ q es tg a, s => match s with
    | .For t iter x [] _ => chkT N q sc tg t && (match iterArgs sc q iter with
      | some as => chkA Z N es sc as
      | none => false) && chkS a x
    | _ => false
  | .ret e, s => match s with
    | .Return (some v) _ => chkE Z N e sc v
    | _ => false
  | .retN, s => match s with
    | .Return none _ => true
    | _ => false
  | .raise _, _ => false
  | .tryc _ _, _ => false
  | .hcons _ _ _ _, _ => false
  | .hnil, _ => false
  | .seq _ _, _ => false
def chkS : MS → List Stmt → Bool
  | .seq a b, ss => match ss with
    | s :: r => chk1 a s && chkS b r
    | [] => false
  | .skip, ss => ss.isEmpty
  | _, _ => false
end
end
section
variable {Y : Fix} {k : Nat} {N : List Str} {W : WX} {sc : Scope}
structure SndS (Y : Fix) (k : Nat) (N : List Str) (sc : Scope) (m : MS) : Prop where
  one : ∀ (X : Cx) (s : Stmt) (W : WX), GxS Y k N sc X → Takes X W → chk1 (names Y) N sc m s = true → PS X s (tS Y k W m)
  all : ∀ (X : Cx) (s : List Stmt) (W : WX), GxS Y k N sc X → Takes X W → chkS (names Y) N sc m s = true → PSs X s (tS Y k W m)
theorem a1_of {i : Nat} {y : Str} (h : chkA1 N sc i y = true) : N[i]? = some y ∧ locB sc y = true := by
  obtain ⟨h1, h2⟩ := and2 h
  exact ⟨of_decide_eq_true h1, h2⟩
theorem m_of {i : Nat} {x m y : Str} {apos cpos : Pos} (h : chkM N sc i x m y apos cpos = true) : N[i]? = some x ∧ visB sc x = true ∧ m = y ∧ (apos.endLine == cpos.line) = true := by
  obtain ⟨h1, h2, h3, h4⟩ := and4 h
  exact ⟨of_decide_eq_true h1, h2, of_decide_eq_true h3, h4⟩
theorem locL_of {x : Str} (h : locL sc x = true) : sc.names.lookup x = some .local := by
  unfold locL at h
  split at h
  · assumption
  · cases h
theorem soundS (m : MS) : SndS Y k N sc m := by
  have no : ∀ {m : MS}, (∀ s, chkS (names Y) N sc m s = false) → ∀ (X : Cx) (s : List Stmt) (W : WX), GxS Y k N sc X → Takes X W → chkS (names Y) N sc m s = true → PSs X s (tS Y k W m) := fun h X s W _ _ c => absurd ((h s).symm.trans c) Bool.false_ne_true
  have no1 : ∀ {m : MS}, (∀ s, chk1 (names Y) N sc m s = false) → ∀ (X : Cx) (s : Stmt) (W : WX), GxS Y k N sc X → Takes X W → chk1 (names Y) N sc m s = true → PS X s (tS Y k W m) := fun h X s W _ _ c => absurd ((h s).symm.trans c) Bool.false_ne_true
  induction m with
  | skip =>
    refine ⟨fun X s W g tk c => ?_, fun X s W g tk c => ?_⟩
    · unfold chk1 at c
      split at c
      · exact ps_skip
      · cases c
    · cases s with
      | nil => exact pss_skip
      | cons _ _ => cases c
  | cont =>
    refine ⟨fun X s W g tk c => ?_, no fun _ => rfl⟩
    unfold chk1 at c
    split at c
    · exact ps_cont
    · cases c
  | never => exact ⟨fun X s W g tk c => s_never, no fun _ => rfl⟩
  | seq a b ha hb =>
    refine ⟨no1 fun _ => rfl, fun X s W g tk c => ?_⟩
    cases s with
    | nil => cases c
    | cons s r =>
      obtain ⟨c1, c2⟩ := and2 (show (chk1 (names Y) N sc a s && chkS (names Y) N sc b r) = true from c)
      exact pss_seq (ha.one X s W g tk c1) (hb.all X r W g tk c2)
  | pub i a ha => exact ⟨fun X s W g tk c => ps_pub (ha.one X s W g tk c), no fun _ => rfl⟩
  | set i e =>
    refine ⟨fun X s W g tk c => ?_, no fun _ => rfl⟩
    unfold chk1 at c
    split at c
    · obtain ⟨c1, c2⟩ := and2 c
      obtain ⟨a1, a2⟩ := a1_of c1
      exact s_set g tk a1 a2 c2
    · cases c
  | setOwn i e =>
    refine ⟨fun X s W g tk c => ?_, no fun _ => rfl⟩
    unfold chk1 at c
    split at c
    · obtain ⟨c1, c2, c3⟩ := and3 c
      obtain ⟨a1, a2⟩ := a1_of c1
      exact s_own g tk a1 a2 c2 c3
    · cases c
  | setCell i e =>
    refine ⟨fun X s W g tk c => ?_, no fun _ => rfl⟩
    unfold chk1 at c
    split at c
    · obtain ⟨c1, c2, c3⟩ := and3 c
      obtain ⟨a1, a2⟩ := a1_of c1
      exact s_cell g tk a1 a2 c2 c3
    · cases c
  | unpack is e =>
    refine ⟨fun X s W g tk c => ?_, no fun _ => rfl⟩
    unfold chk1 at c
    split at c
    · obtain ⟨c1, c2, c3⟩ := and3 c
      exact s_unpack g tk c1 c2 c3
    · cases c
  | par own es =>
    refine ⟨fun X s W g tk c => ?_, no fun _ => rfl⟩
    unfold chk1 at c
    split at c
    · simp only [Bool.and_eq_true] at c
      obtain ⟨⟨⟨⟨⟨⟨c1, c2⟩, c3⟩, c4⟩, c5⟩, c6⟩, c7⟩ := c
      split at c2
      · rename_i i j e
        simp only [Bool.and_eq_true] at c2
        obtain ⟨⟨d1, d2⟩, d3⟩ := c2
        exact s_par2 g tk c1 e (of_decide_eq_true d1) (of_decide_eq_true d2) (of_decide_eq_true d3) (locL_of c3) (locL_of c4) (of_decide_eq_true c5) c6 c7
      · cases c2
    · simp only [Bool.and_eq_true] at c
      obtain ⟨⟨⟨⟨⟨⟨⟨c1, c2⟩, c3⟩, c4⟩, c5⟩, c6⟩, c7⟩, c8⟩ := c
      split at c2
      · rename_i i j l e
        simp only [Bool.and_eq_true] at c2
        obtain ⟨⟨⟨⟨⟨d1, d2⟩, d3⟩, d4⟩, d5⟩, d6⟩ := c2
        exact s_par3 g tk c1 e (of_decide_eq_true d1) (of_decide_eq_true d2) (of_decide_eq_true d3) (of_decide_eq_true d4) (of_decide_eq_true d5) (of_decide_eq_true d6) (locL_of c3) (locL_of c4) (locL_of c5) (of_decide_eq_true c6) c7 c8
      · cases c2
    · cases c
  | append i e =>
    refine ⟨fun X s W g tk c => ?_, no fun _ => rfl⟩
    unfold chk1 at c
    split at c
    · obtain ⟨c1, c2, c3⟩ := and3 c
      obtain ⟨a1, a2, a3, a4⟩ := m_of c1
      subst a3
      exact s_append g tk a1 a2 c2 a4 c3
    · cases c
  | extend i e =>
    refine ⟨fun X s W g tk c => ?_, no fun _ => rfl⟩
    unfold chk1 at c
    split at c
    · obtain ⟨c1, c2, c3⟩ := and3 c
      obtain ⟨a1, a2, a3, a4⟩ := m_of c1
      subst a3
      exact s_extend g tk a1 a2 c2 a4 c3
    · cases c
  | popx i e =>
    refine ⟨fun X s W g tk c => ?_, no fun _ => rfl⟩
    unfold chk1 at c
    split at c
    · obtain ⟨c1, c2, c3⟩ := and3 c
      obtain ⟨a1, a2, a3, a4⟩ := m_of c1
      subst a3
      exact s_popx g tk a1 a2 c2 a4 c3
    · cases c
  | popTo t i e =>
    refine ⟨fun X s W g tk c => ?_, no fun _ => rfl⟩
    unfold chk1 at c
    split at c
    · obtain ⟨c0, c1, c2, c3⟩ := and4 c
      obtain ⟨b1, b2⟩ := a1_of c0
      obtain ⟨a1, a2, a3, a4⟩ := m_of c1
      subst a3
      exact s_popTo g tk b1 b2 a1 a2 c2 a4 c3
    · cases c
  | setix i j e =>
    refine ⟨fun X s W g tk c => ?_, no fun _ => rfl⟩
    unfold chk1 at c
    split at c
    · simp only [Bool.and_eq_true] at c
      obtain ⟨⟨⟨⟨c1, c2⟩, c3⟩, c4⟩, c5⟩ := c
      exact s_setix g tk (of_decide_eq_true c1) c2 c3 c4 c5
    · cases c
  | augix i j e => exact ⟨no1 fun _ => rfl, no fun _ => rfl⟩
  | aug i op e =>
    refine ⟨fun X s W g tk c => ?_, no fun _ => rfl⟩
    unfold chk1 at c
    split at c
    · obtain ⟨c1, c2⟩ := and2 c
      obtain ⟨a1, a2⟩ := a1_of c1
      exact s_aug g tk a1 a2 c2
    · cases c
  | expr e =>
    refine ⟨fun X s W g tk c => ?_, no fun _ => rfl⟩
    unfold chk1 at c
    split at c
    · obtain ⟨c1, c2⟩ := and2 c
      exact s_expr g tk c1 (not_f c2)
    · cases c
  | ife c0 a b ha hb =>
    refine ⟨fun X s W g tk c => ?_, no fun _ => rfl⟩
    unfold chk1 at c
    split at c
    · obtain ⟨c1, c2, c3⟩ := and3 c
      exact s_if g tk c1 (ha.all X _ W g tk c2) (hb.all X _ W g tk c3)
    · cases c
  | whl c0 a ha =>
    refine ⟨fun X s W g tk c => ?_, no fun _ => rfl⟩
    unfold chk1 at c
    split at c
    · obtain ⟨c1, c2⟩ := and2 c
      exact s_while g tk c1 (ha.all X _ W g tk c2)
    · cases c
  | for_ q es tg a ha =>
    refine ⟨fun X s W g tk c => ?_, no fun _ => rfl⟩
    unfold chk1 at c
    split at c
    · obtain ⟨c1, c2, c3⟩ := and3 c
      split at c2
      · rename_i as hi
        exact s_for g tk c1 hi c2 (ha.all X _ W g tk c3)
      · cases c2
    · cases c
  | ret e =>
    refine ⟨fun X s W g tk c => ?_, no fun _ => rfl⟩
    unfold chk1 at c
    split at c
    · exact s_ret g tk c
    · cases c
  | retN =>
    refine ⟨fun X s W g tk c => ?_, no fun _ => rfl⟩
    unfold chk1 at c
    split at c
    · exact s_retN
    · cases c
  | raise c0 => exact ⟨no1 fun _ => rfl, no fun _ => rfl⟩
  | tryc a b ha hb => exact ⟨no1 fun _ => rfl, no fun _ => rfl⟩
  | hcons c0 i a r ha hr => exact ⟨no1 fun _ => rfl, no fun _ => rfl⟩
  | hnil => exact ⟨no1 fun _ => rfl, no fun _ => rfl⟩
end
end EV

/-! EvFn: defs, level by level; the end of a law. -/
namespace EV
open PySem PySem.Spec PyProof.Rows L2
/-- what is known of a def: where it stands, its text, its names; the check -/
structure DefOk (Y : Fix) (f : Nat) (fn : Fn) : Prop where
  ex : ∃ (a : Addr) (fd : FuncData) (x qual : Str) (params : Arguments) (body : List Stmt) (scope : Scope) (N ps : List Str), Y.mg (Y.nm f) = some (.ref a) ∧ FunD Y.K x qual params body scope [] [] a fd ∧ FnScope N ps scope ∧
    ps.length = fn.np ∧ N.length = fn.ns ∧ chkS (names Y) N scope fn.body body = true ∧ Binds Y.K fd ps []
structure FixOk (Y : Fix) : Prop where
  free : ∀ x ∈ blts, Y.mg x = none
  glo : ∀ g d, Y.T.glo g = some d → ∃ v u, Y.mg (Y.gn g) = some u ∧ RelV v u ∧ ∀ I μ, Rep Y I μ d v
  defs : ∀ f fn, Y.T.fn f = some fn → DefOk Y f fn
section
variable {Y : Fix} {I H : Hp} {S : Sto} {μ : List Addr}
theorem start_ok {n : Nat} {N : List Str} {ds : List D} {vs : List V} (w : Wd Y I H S μ) (r : Reps Y I μ ds vs) (hN : N.length = n) (hl : ds.length ≤ n) : St Y ⟨I, H, μ, I, μ⟩ I H S μ (EV.start n ds) (L2.start N vs) := by
  have hv := r.length
  have noOwn : ∀ (i : Nat) (es : List D), (EV.start n ds)[i]? = some (.own es) → False := fun i es q => by
    unfold EV.start at q
    rw [List.getElem?_append] at q
    split at q
    · rw [List.getElem?_map] at q
      cases z : ds[i]? with
      | none => rw [z] at q; cases q
      | some d => rw [z] at q; cases q
    · rw [List.getElem?_replicate] at q
      split at q <;> cases q
  refine ⟨w, ⟨?_, fun i d q => ?_, fun i es q => (noOwn i es q).elim, fun i j a es fs q => (noOwn i es q).elim⟩, Ext.refl, fun i es a q => (noOwn i es q).elim, Same.refl _, List.prefix_refl _⟩
  · unfold EV.start L2.start
    rw [List.length_append, List.length_append, List.length_map, List.length_map, List.length_replicate, List.length_replicate, hv, hN]
  · unfold EV.start at q
    rw [List.getElem?_append] at q
    split at q
    · rename_i hlt
      rw [List.getElem?_map] at q
      cases z : ds[i]? with
      | none => rw [z] at q; cases q
      | some e =>
        rw [z] at q
        cases q
        obtain ⟨v, e1, e2⟩ := r.get z
        refine ⟨v, ?_, e2⟩
        unfold L2.start
        rw [List.length_map] at hlt
        rw [List.getElem?_append_left (by rw [List.length_map, hv]; exact hlt), List.getElem?_map, e1]
        rfl
    · rw [List.getElem?_replicate] at q
      split at q <;> cases q
theorem spF_zero {f : Nat} {vs : List V} {H : Hp} {Q : VK} {E : XK} (h : spF Y 0 f vs H Q E) : False := by
  obtain ⟨ds, I, S, μ, _, _, h⟩ := h
  exact h
/-- what is promised of a level's defs -/
def Lev (Y : Fix) (k : Nat) : Prop := ∀ (f : Nat) (fn : Fn), Y.T.fn f = some fn → ∃ a fd ps, Y.mg (Y.nm f) = some (.ref a) ∧ FnOk Y.P Y.w Y.K Y.mg Y.base (L2.CX Y.P Y.w) k a fd ps (spF Y k f) ∧ PySem.W.keepIn Y.K (.ref a) = true ∧ Binds Y.K fd ps []
theorem fn_body (free : ∀ x ∈ blts, Y.mg x = none) (glo : ∀ g d, Y.T.glo g = some d → ∃ v u, Y.mg (Y.gn g) = some u ∧ RelV v u ∧ ∀ I μ, Rep Y I μ d v) {k f : Nat} {fn : Fn} (hf : Y.T.fn f = some fn) (ih : Lev Y k)
    {a : Addr} {fd : FuncData} {x qual : Str} {params : Arguments} {body : List Stmt} {scope : Scope} {N ps : List Str} (F : FunD Y.K x qual params body scope [] [] a fd) (sc : FnScope N ps scope)
    (hp : ps.length = fn.np) (hn : N.length = fn.ns) (hc : chkS (names Y) N scope fn.body body = true) : FnOk Y.P Y.w Y.K Y.mg Y.base (L2.CX Y.P Y.w) (k + 1) a fd ps (spF Y (k + 1) f) := by
  have callEq : ∀ ds, callF Y.T (k + 1) f ds = (if ds.length = fn.np then fun s => fin (ex (cl Y k) Y.T.F fn.body (EV.start fn.ns ds) s) else M.stuck : M D) := fun ds => by
    show (match Y.T.fn f with
      | some fn => (if ds.length = fn.np then _ else M.stuck : M D)
      | none => M.stuck) = _
    rw [hf]
    rfl
  have len : ∀ vs H Q E, spF Y (k + 1) f vs H Q E → vs.length = ps.length := fun vs H Q E ⟨ds, I, S, μ, w, r, h⟩ => by
    rw [callEq] at h
    by_cases hl : ds.length = fn.np
    · rw [r.length, hl, hp]
    · rw [if_neg hl] at h
      exact h.elim
  refine F.ok sc len fun cdv A outer s H vs Q E hr h => ⟨tS Y k (fun cls d _ H => E cls d H) fn.body, ?_, ?_⟩
  · have g : GxS Y k N scope (cxOf (L2.CX Y.P Y.w) Y.P Y.w Y.K Y.mg Y.base N qual scope a cdv A outer s H E) := {
      hK := rfl
      hm := rfl
      hN := rfl
      nd := sc.nd
      hs := ScOk.refl scope
      calm := rfl
      room := hr
      fn := fun x e => rfl
      free := free
      glo := glo
      defs := ih
      sce := rfl
      kf := sc.kind
      pass := passes_of rfl }
    exact (soundS fn.body).all _ body _ g (takes_of rfl rfl rfl rfl) hc
  · obtain ⟨ds, I, S, μ, w, r, h⟩ := h
    rw [callEq] at h
    by_cases hl : ds.length = fn.np
    · rw [if_pos hl] at h
      have hns : ds.length ≤ fn.ns := by
        have := congrArg List.length sc.pre
        rw [List.length_take, hn, hp] at this
        omega
      refine ⟨⟨I, H, μ, I, μ⟩, I, S, μ, EV.start fn.ns ds, start_ok w r hn hns, ?_⟩
      show AftS Y _ _ _ (ex (cl Y k) Y.T.F fn.body (EV.start fn.ns ds) S)
      cases e : ex (cl Y k) Y.T.F fn.body (EV.start fn.ns ds) S with
      | stuck => rw [e] at h; exact h.elim
      | exc c S1 => rw [e] at h; exact h.elim
      | ok o S1 =>
        rw [e] at h
        cases o with
        | ret d => exact fun I' H' μ' x w' v rv => h I' H' μ' x w' v rv
        | nx ρ => exact fun σ I' H' μ' st => h I' H' μ' st.x st.w .non rfl
        | thr c ρ => exact fun σ I' H' μ' st => h I' H' μ' st.x st.w
        | ct ρ => exact h.elim
    · rw [if_neg hl] at h
      exact h.elim
theorem fn_level (ok : FixOk Y) : ∀ k : Nat, Lev Y k := by
  intro k
  induction k with
  | zero =>
    intro f fn hf
    obtain ⟨a, fd, x, qual, params, body, scope, N, ps, e1, F, _, _, _, _, b⟩ := (ok.defs f fn hf).ex
    exact ⟨a, fd, ps, e1, ⟨fun vs H Q E h => (spF_zero h).elim, fun A outer s H args us vs Q E _ _ _ _ h => (spF_zero h).elim⟩, F.kp, b⟩
  | succ k ih =>
    intro f fn hf
    obtain ⟨a, fd, x, qual, params, body, scope, N, ps, e1, F, sc, hp, hn, hc, b⟩ := (ok.defs f fn hf).ex
    exact ⟨a, fd, ps, e1, fn_body ok.free ok.glo hf ih F sc hp hn hc, F.kp, b⟩
end
end EV

/-! EvHead: from what the head says to a law's end. -/
namespace EV
open PySem PySem.Spec PyProof.Rows L2
theorem zip_lookup {ps : List Str} : ∀ {us : List Value}, us.length = ps.length → ∀ x ∈ ps, ∃ v, (ps.zip us).lookup x = some v := by
  induction ps with
  | nil => intro us _ x m; cases m
  | cons p ps ih =>
    intro us hl x m
    cases us with
    | nil => cases hl
    | cons u us =>
      rw [List.zip_cons_cons, List.lookup_cons]
      by_cases e : x == p
      · rw [e]; exact ⟨u, rfl⟩
      · have e' : (x == p) = false := by cases h : (x == p) with | true => exact absurd h e | false => rfl
        rw [e']
        rcases List.mem_cons.mp m with q | q
        · rw [q] at e; exact absurd (beq_self_eq_true p) e
        · exact ih (by simpa using hl) x q
theorem filterMap_same {α β : Type} {f g : α → Option β} : ∀ {l : List α}, (∀ x ∈ l, f x = g x) → l.filterMap f = l.filterMap g
  | [], _ => rfl
  | a :: l, h => by
    rw [List.filterMap_cons, List.filterMap_cons, h a List.mem_cons_self, filterMap_same fun x m => h x (List.mem_cons_of_mem _ m)]
theorem zip_filterMap {ps : List Str} (nd : ps.Nodup) : ∀ {us : List Value}, us.length = ps.length → ps.filterMap (fun n => ((ps.zip us).lookup n).map (n, ·)) = ps.zip us := by
  induction ps with
  | nil => intro us _; rfl
  | cons p ps ih =>
    intro us hl
    cases us with
    | nil => cases hl
    | cons u us =>
      rw [List.nodup_cons] at nd
      rw [List.zip_cons_cons, List.filterMap_cons, List.lookup_cons, beq_self_eq_true]
      dsimp only [Option.map_some]
      congr 1
      refine (filterMap_same fun x m => ?_).trans (ih nd.2 (us := us) (by simpa using hl))
      have e : (x == p) = false := by
        cases h : (x == p) with
        | false => rfl
        | true => exact absurd (eq_of_beq h ▸ m) nd.1
      rw [List.lookup_cons, e]
theorem bind_simple {x qual : Str} {a : Arguments} {body : List Stmt} {scope : Scope} {kV doc pm cdv ct : Value} {an : Option Addr} {us : List Value} (h1 : a.posonlyargs = []) (h2 : a.kwonlyargs = []) (h3 : a.vararg = none) (h4 : a.kwarg = none) (nd : (a.args.map (·.arg)).Nodup) (hl : us.length = (a.args.map (·.arg)).length) :
    bindArgs (PySem.W.fnOf x qual a body scope .none kV doc pm an cdv ct) ⟨us, []⟩ = pure ((a.args.map (·.arg)).zip us) := by
  obtain ⟨a1, a2, a3, a4, a5, a6, a7⟩ := a
  dsimp only at h1 h2 h3 h4 nd hl
  subst h1 h2 h3 h4
  have hm : ((a2.map (·.arg)).filter fun n => (((a2.map (·.arg)).zip us).lookup n).isNone) = [] := by
    rw [List.filter_eq_nil_iff]
    intro y my
    obtain ⟨v, e⟩ := zip_lookup hl y my
    rw [e]
    exact Bool.false_ne_true
  have hg : ¬ (us.length > (a2.map (·.arg)).length) := by omega
  unfold bindArgs
  unfold PySem.W.fnOf
  have hm2 : ((a2.map (·.arg)).take (a2.map (·.arg)).length).filter (fun n => (((a2.map (·.arg)).zip us).lookup n).isNone) = [] := by rw [List.take_length]; exact hm
  have hz := zip_filterMap nd hl
  simp only [List.map_nil, List.nil_append, List.append_nil, seqItems?, notAStandIn, List.forIn_nil, pure_bind, Option.getD_none, List.length_nil, Nat.sub_zero, Nat.zero_sub, List.drop_zero, List.drop_nil, List.zip_nil_right, hm2, List.isEmpty_nil, Bool.not_true, Bool.false_eq_true, if_false, hz]
  rw [if_neg (by simp [hl])]

/-! ### a law's defs as data -/
structure Ent where
  f : Nat
  x : Str
  N : List Str
  fn : Fn
structure LawD where
  ents : List Ent
  gis : List (Nat × Str × Int)
  gss : List (Nat × Str × Str)
  F : Nat
def LawD.tab (L : LawD) : Tab where
  fn := fun f => (L.ents.find? fun e => e.f == f).map (·.fn)
  glo := fun g => match L.gis.lookup g with
    | some (_, i) => some (.int i)
    | none => match L.gss.lookup g with
      | some (_, z) => some (.str z)
      | none => none
  F := L.F
def LawD.nm (L : LawD) (f : Nat) : Str := match L.ents.find? fun e => e.f == f with
  | some e => e.x
  | none => ""
def LawD.gn (L : LawD) (g : Nat) : Str := match L.gis.lookup g with
  | some (x, _) => x
  | none => match L.gss.lookup g with
    | some (x, _) => x
    | none => ""
def LawD.names (L : LawD) (xn : Nat → Str) : Names := ⟨L.nm, L.gn, xn, fun f => (L.tab.fn f).isSome⟩
def simpleB (a : Arguments) : Bool := a.posonlyargs.isEmpty && a.kwonlyargs.isEmpty && a.vararg.isNone && a.kwarg.isNone && a.defaults.isEmpty && decide (a.args.map (·.arg)).Nodup
def scopeB (N ps : List Str) (sc : Scope) : Bool := funB sc && !sc.isCoroutine && !sc.isGenerator && decide N.Nodup && decide (N.take ps.length = ps) && ps.all (locB sc) && sc.names.all (fun y => match y.2 with
  | .free => false
  | _ => true)
def entB (Z : Names) (ds : List He.DefD) (e : Ent) : Bool := match ds.find? fun d => decide (d.name = e.x) with
  | none => false
  | some d => decide (d.at_ = (e.x, none)) && d.dfl.isEmpty && d.kwd.isEmpty && simpleB d.params && scopeB e.N (d.params.args.map (·.arg)) d.scope && (d.params.args.length == e.fn.np) && (e.N.length == e.fn.ns) && chkS Z e.N d.scope e.fn.body d.body
def LawD.ok (L : LawD) (xn : Nat → Str) (ds : List He.DefD) : Bool := L.ents.all (entB (L.names xn) ds) && L.gss.all fun q => decide (q.2.2.cps.size ≤ 100000)
def LawD.fa (L : LawD) : List He.Fa := (L.ents.map fun e => .glo e.x) ++ (blts.map .free) ++ (L.gis.map fun q => .int q.2.1 q.2.2) ++ L.gss.map fun q => .str q.2.1 q.2.2
theorem scope_of {N ps : List Str} {sc : Scope} (h : scopeB N ps sc = true) : FnScope N ps sc := by
  unfold scopeB at h
  simp only [Bool.and_eq_true, Bool.not_eq_true', decide_eq_true_eq, List.all_eq_true] at h
  obtain ⟨⟨⟨⟨⟨⟨h1, h2⟩, h3⟩, h4⟩, h5⟩, h6⟩, h7⟩ := h
  refine ⟨?_, h2, h3, h4, h5, fun x m => ?_, fun y m e => ?_⟩
  · unfold funB at h1
    split at h1
    · assumption
    · cases h1
  · have := h6 x m
    unfold locB at this
    split at this
    · rename_i e; exact .inl e
    · rename_i e; exact .inr e
    · cases this
  · have := h7 y m
    rw [e] at this
    cases this
theorem lookup_mem {α : Type} {g : Nat} {v : α} : ∀ {l : List (Nat × α)}, l.lookup g = some v → (g, v) ∈ l
  | [], h => by cases h
  | (n, w) :: r, h => by
    rw [List.lookup_cons] at h
    by_cases e : g == n
    · rw [e] at h
      cases h
      rw [eq_of_beq e]
      exact List.mem_cons_self
    · have e' : (g == n) = false := by cases q : (g == n) with | true => exact absurd q e | false => rfl
      rw [e'] at h
      exact List.mem_cons_of_mem _ (lookup_mem h)
section
variable {L : LawD} {xn : Nat → Str} {ds : List He.DefD} {K : PySem.W.Frag} {h : Heap} {mg : Str → Option Value} {P : Program} {w : World} {base : Heap}
def LawD.fix (L : LawD) (xn : Nat → Str) (P : Program) (w : World) (K : PySem.W.Frag) (mg : Str → Option Value) (base : Heap) : Fix := ⟨P, w, K, mg, base, L.tab, L.nm, L.gn, xn, 0⟩
theorem fix_ok {fa : List He.Fa} (hfa : ∀ f ∈ L.fa, f ∈ fa) (ok : L.ok xn ds = true) (X : K.In h) (G : h.Ns mainGlobals mg) (c : He.SaysD fa ds K) : FixOk (L.fix xn P w K mg base) := by
  obtain ⟨ok1, ok2⟩ := and2 ok
  have mem : ∀ {f : He.Fa}, f ∈ L.fa → f.ok K = true := fun m => He.SaysD.facts c (hfa _ m)
  refine ⟨fun x m => ?_, fun g d e => ?_, fun f fn e => ?_⟩
  · refine He.free_ok X G (mem ?_)
    unfold LawD.fa
    exact List.mem_append_left _ (List.mem_append_left _ (List.mem_append_right _ (List.mem_map_of_mem m)))
  · show ∃ v u, mg (L.gn g) = some u ∧ _
    have e' : (match L.gis.lookup g with
      | some (_, i) => some (.int i)
      | none => match L.gss.lookup g with
        | some (_, z) => some (.str z)
        | none => none) = some d := e
    unfold LawD.gn
    cases ei : L.gis.lookup g with
    | some q =>
      obtain ⟨x, i⟩ := q
      rw [ei] at e'
      cases e'
      obtain ⟨t, ht⟩ := He.int_ok (x := x) (i := i) X G (mem (by
        unfold LawD.fa
        exact List.mem_append_left _ (List.mem_append_right _ (List.mem_map.mpr ⟨_, lookup_mem ei, rfl⟩))))
      exact ⟨.int i, _, ht, ⟨t, rfl⟩, fun _ _ => rfl⟩
    | none =>
      rw [ei] at e'
      cases es : L.gss.lookup g with
      | none => rw [es] at e'; cases e'
      | some q =>
        obtain ⟨x, z⟩ := q
        rw [es] at e'
        cases e'
        obtain ⟨t, ht⟩ := He.str_ok (x := x) (z := z) X G (mem (by
          unfold LawD.fa
          exact List.mem_append_right _ (List.mem_map.mpr ⟨_, lookup_mem es, rfl⟩)))
        have hz := List.all_eq_true.mp ok2 _ (lookup_mem es)
        exact ⟨.str z, _, ht, ⟨t, rfl⟩, fun _ _ => ⟨rfl, Nat.le_trans (of_decide_eq_true hz) (by decide)⟩⟩
  · have e' : (L.ents.find? fun e => e.f == f).map (·.fn) = some fn := e
    cases ef : L.ents.find? fun e => e.f == f with
    | none => rw [ef] at e'; cases e'
    | some t =>
      rw [ef] at e'
      cases e'
      have hm := List.mem_of_find?_eq_some ef
      have hb := List.all_eq_true.mp ok1 t hm
      unfold entB at hb
      split at hb
      · cases hb
      · rename_i d ed
        simp only [Bool.and_eq_true, decide_eq_true_eq] at hb
        obtain ⟨⟨⟨⟨⟨⟨⟨b1, b2⟩, b3⟩, b4⟩, b5⟩, b6⟩, b7⟩, b8⟩ := hb
        have hd := List.mem_of_find?_eq_some ed
        obtain ⟨fd, F⟩ := He.SaysD.defs c hd
        have n1 : d.dvs K = [] := by
          unfold He.DefD.dvs
          rw [List.isEmpty_iff.mp b2]
          rfl
        have n2 : d.kws K = [] := by
          unfold He.DefD.kws
          rw [List.isEmpty_iff.mp b3]
          rfl
        rw [n1, n2, b1] at F
        have hmg : mg t.x = some (.ref (He.ga K t.x)) := He.glo_ok X G (mem (by
          unfold LawD.fa
          exact List.mem_append_left _ (List.mem_append_left _ (List.mem_append_left _ (List.mem_map_of_mem hm)))))
        have enm : L.nm f = t.x := by unfold LawD.nm; rw [ef]
        unfold simpleB at b4
        simp only [Bool.and_eq_true, decide_eq_true_eq] at b4
        obtain ⟨⟨⟨⟨⟨s1, s2⟩, s3⟩, s4⟩, s5⟩, s6⟩ := b4
        refine ⟨He.ga K t.x, fd, d.name, d.qual, d.params, d.body, d.scope, t.N, d.params.args.map (·.arg), ?_, F, scope_of b5, ?_, eq_of_beq b7, b8, ?_⟩
        · show mg (L.nm f) = _
          rw [enm]
          exact hmg
        · rw [List.length_map]
          exact eq_of_beq b6
        · exact F.bindsN fun _ _ _ _ _ _ us hl => bind_simple (List.isEmpty_iff.mp s1) (List.isEmpty_iff.mp s2) (Option.isNone_iff_eq_none.mp s3) (Option.isNone_iff_eq_none.mp s4) s6 hl
end
/-! ### the law's end -/
theorem walk_ofEB {l : PySem.W.OpenLaw} {n k : Nat} {q : Program} {loose : List Str} {XP : (Str → Option Value) → Heap → Prop} {YP : World → Heap → Prop} {d : DefRec} {CX : World → CXT} {x : Str}
    (hn : l.most = some n) (hn2 : n ≤ sizeLine) (hdf : d.params.defaults = []) (hr : Room k callerA)
    (F : ∀ (w : World) (mg : Str → Option Value) (fa : Addr) (h : Heap), YP w h → h.Ns mainGlobals mg → mg d.name = some (.ref fa) →
      ∃ (K : PySem.W.Frag) (fd : FuncData) (sp : Sp), K.In h ∧ (∀ (s : Shared) (u : Value), BindsTo s fd ⟨[u], []⟩ [(x, u)]) ∧
        (∀ (H : Hp) (a : Addr) (ns : List Int), ns.length ≤ n → (∀ z ∈ ns, Builtin.Int.intBits z ≤ 1048576) → Only H → SqL K H a (ns.map V.int) → sp [.ref a] H (fun v _ => v = .bl true) fun _ _ _ => False) ∧
        ∀ base : Heap, K.In base → base.Ns mainGlobals mg → FnOk l.prog w K mg base (CX w) k fa fd [x] sp)
    (hCX : ∀ (w : World) (H : Hp) (s : Shared) (e : Value) (s' : Shared), CX w [] H s (fun _ _ _ => False) e s' → False) :
    PySem.W.WalkO q loose XP YP l.row.toRowW d [] (fun f vs => PySem.call f vs) := by
  refine Att.attach_callB hn hdf fun w s₀ s₁ mg mb fa o pm cd doc a vs ns G Y ho hd hcd hmg hobj hints hlen hbits hg => ?_
  obtain ⟨K, fd, sp, KX, hb, hsp, hF⟩ := F w mg fa _ Y G.T.g hmg
  exact law_call KX G.T.g G.T.b G.T.builtins G.T.nolimit hg hobj hints (Nat.le_trans hlen hn2) hr hF hb (fun H hO hS => hsp H a ns hlen hbits hO hS) fun H e s' => hCX w H s₁ e s'
/-- a law whose defs are data, and whose run as data ends in True -/
theorem law_end {l : PySem.W.OpenLaw} {n k f0 : Nat} {q : Program} {loose : List Str} {XP : (Str → Option Value) → Heap → Prop} {YP : World → Heap → Prop} {d : DefRec} {L : LawD} {xn : Nat → Str} {ds : List He.DefD} {fa : List He.Fa} {e0 : Ent}
    (hn : l.most = some n) (hn2 : n ≤ sizeLine) (hdf : d.params.defaults = []) (hr : Room (k + 1) callerA) (hfa : ∀ f ∈ L.fa, f ∈ fa) (ok : L.ok xn ds = true) (h0 : L.ents.find? (fun e => e.f == f0) = some e0) (hx : e0.x = d.name) (hN : e0.fn.np = 1)
    (hY : ∀ w h, YP w h → ∃ K : PySem.W.Frag, K.In h ∧ He.SaysD fa ds K)
    (run : ∀ ns : List Int, ns.length ≤ n → (∀ z ∈ ns, Builtin.Int.intBits z ≤ 1048576) → ∃ S, callF L.tab (k + 1) f0 [.scr ns] [] = .ok (.bl true) S) :
    PySem.W.WalkO q loose XP YP l.row.toRowW d [] (fun f vs => PySem.call f vs) := by
  have hm0 := List.mem_of_find?_eq_some h0
  have hb : entB (L.names xn) ds e0 = true := List.all_eq_true.mp (and2 ok).1 _ hm0
  have hfn : L.tab.fn f0 = some e0.fn := by
    show (L.ents.find? fun e => e.f == f0).map (·.fn) = _
    rw [h0]; rfl
  unfold entB at hb
  split at hb
  · cases hb
  rename_i d' ed
  simp only [Bool.and_eq_true, decide_eq_true_eq] at hb
  obtain ⟨⟨⟨⟨⟨⟨⟨b1, b2⟩, b3⟩, b4⟩, b5⟩, b6⟩, b7⟩, b8⟩ := hb
  have hl := eq_of_beq b6
  rw [hN] at hl
  obtain ⟨p, hp⟩ : ∃ p, d'.params.args = [p] := by
    match hh : d'.params.args, hl with
    | [p], _ => exact ⟨p, rfl⟩
  unfold simpleB at b4
  simp only [Bool.and_eq_true, decide_eq_true_eq] at b4
  obtain ⟨⟨⟨⟨⟨s1, s2⟩, s3⟩, s4⟩, s5⟩, s6⟩ := b4
  refine walk_ofEB (CX := fun w => L2.CX l.prog w) (x := p.arg) hn hn2 hdf hr (fun w mg ad h Y G hmg => ?_) fun w H s e s' z => ?_
  · obtain ⟨K, KX, c⟩ := hY w h Y
    have hd := List.mem_of_find?_eq_some ed
    obtain ⟨fd, F⟩ := He.SaysD.defs c hd
    have n1 : d'.dvs K = [] := by
      unfold He.DefD.dvs
      rw [List.isEmpty_iff.mp b2]
      rfl
    have n2 : d'.kws K = [] := by
      unfold He.DefD.kws
      rw [List.isEmpty_iff.mp b3]
      rfl
    rw [n1, n2, b1] at F
    have hmg' : mg e0.x = some (.ref (He.ga K e0.x)) := He.glo_ok KX G (He.SaysD.facts c (hfa _ (by
      unfold LawD.fa
      exact List.mem_append_left _ (List.mem_append_left _ (List.mem_append_left _ (List.mem_map_of_mem hm0))))))
    rw [hx, hmg] at hmg'
    have ea : ad = He.ga K e0.x := by rw [hx]; exact Value.ref.inj (Option.some.inj hmg')
    have bs : ∀ us : List Value, us.length = ([p.arg] : List Str).length → ∀ s : Shared, BindsTo s fd ⟨us, []⟩ ([p.arg].zip us) := fun us hl s => F.bindsA (ps := [p.arg]) (fun kV doc pm an cdv ct us hl => by
      have := bind_simple (x := d'.name) (qual := d'.qual) (body := d'.body) (scope := d'.scope) (kV := kV) (doc := doc) (pm := pm) (an := an) (cdv := cdv) (ct := ct) (us := us) (List.isEmpty_iff.mp s1) (List.isEmpty_iff.mp s2) (Option.isNone_iff_eq_none.mp s3) (Option.isNone_iff_eq_none.mp s4) s6 (by rw [hp]; exact hl)
      rw [hp] at this
      exact this) s us hl
    refine ⟨K, fd, fun vs H Q E => ∀ base, spF (L.fix xn l.prog w K mg base) (k + 1) f0 vs H Q E, KX, fun s u => bs [u] rfl s, fun H a ns hlen hbits hO hS base => ?_, fun base hK hG => ?_⟩
    · obtain ⟨S, hrun⟩ := run ns hlen hbits
      refine ⟨[.scr ns], H, [], [], ⟨Same.refl _, rfl, List.nodup_nil, fun n c e => by cases e⟩, ⟨.ref a, [], rfl, ⟨a, rfl, hS⟩, rfl⟩, ?_⟩
      show match callF L.tab (k + 1) f0 [.scr ns] [] with
        | .ok d S' => _
        | .exc c S' => _
        | .stuck => False
      rw [hrun]
      exact fun I' H' μ' x w' v r => r
    · have okF : FixOk (L.fix xn l.prog w K mg base) := fix_ok hfa ok KX G c
      rw [ea]
      have fb := fn_body (Y := L.fix xn l.prog w K mg base) okF.free okF.glo (f := f0) hfn (fn_level okF k) F (scope_of b5) (by rw [List.length_map]; exact eq_of_beq b6) (eq_of_beq b7) b8
      rw [hp] at fb
      exact fb.imp fun vs H Q E h => h base
  · obtain ⟨_, _, _, _, _, _, _, _, _, _, _, _, z⟩ := z
    exact z
end EV

namespace EV
open PySem
def N_gcd : List Str := ["one", "other"]
def B_gcd : MS := (.seq (.par [(false, 0), (false, 1)] (.acons (.blt .abs (.acons (.var 0) .anil)) (.acons (.blt .abs (.acons (.var 1) .anil)) .anil))) (.seq (.whl (.cmp .ne (.var 1) (.int 0)) (.seq (.par [(false, 0), (false, 1)] (.acons (.var 1) (.acons (.bin .mod (.var 0) (.var 1)) .anil))) .skip)) (.seq (.ret (.var 0)) .skip)))
def f_gcd : Fn := ⟨2, 2, B_gcd⟩
abbrev i_gcd : Nat := 0
def N_in_range : List Str := ["value", "low", "high"]
def B_in_range : MS := (.seq (.ret (.and (.isi (.var 0) .int) (.and (.not (.isi (.var 0) .bool)) (.chain .le .le (.var 1) (.var 0) (.var 2))))) .skip)
def f_in_range : Fn := ⟨3, 3, B_in_range⟩
abbrev i_in_range : Nat := 1
def N_fraction : List Str := ["top", "bottom", "common"]
def B_fraction : MS := (.seq (.set 2 (.call 0 (.acons (.var 0) (.acons (.var 1) .anil)))) (.seq (.ife (.cmp .lt (.var 1) (.int 0)) (.seq (.set 2 (.bin .sub (.int 0) (.var 2))) .skip) .skip) (.seq (.ret (.tup (.acons (.bin .fdiv (.var 0) (.var 2)) (.acons (.bin .fdiv (.var 1) (.var 2)) .anil)))) .skip)))
def f_fraction : Fn := ⟨2, 3, B_fraction⟩
abbrev i_fraction : Nat := 2
def N_is_fraction : List Str := ["value"]
def B_is_fraction : MS := (.seq (.ife (.or (.not (.isi (.var 0) .tuple)) (.cmp .ne (.blt .len (.acons (.var 0) .anil)) (.int 2))) (.seq (.ret (.bl false)) .skip) .skip) (.seq (.ife (.or (.not (.call 1 (.acons (.ix (.var 0) (.int 0)) (.acons (.int 0) (.acons (.glo 0) .anil))))) (.not (.call 1 (.acons (.ix (.var 0) (.int 1)) (.acons (.int 1) (.acons (.glo 0) .anil)))))) (.seq (.ret (.bl false)) .skip) .skip) (.seq (.ret (.cmp .eq (.call 0 (.acons (.ix (.var 0) (.int 0)) (.acons (.ix (.var 0) (.int 1)) .anil))) (.int 1))) .skip)))
def f_is_fraction : Fn := ⟨1, 1, B_is_fraction⟩
abbrev i_is_fraction : Nat := 3
def N_plus : List Str := ["one", "other"]
def B_plus : MS := (.seq (.ret (.call 2 (.acons (.bin .add (.bin .mul (.ix (.var 0) (.int 0)) (.ix (.var 1) (.int 1))) (.bin .mul (.ix (.var 1) (.int 0)) (.ix (.var 0) (.int 1)))) (.acons (.bin .mul (.ix (.var 0) (.int 1)) (.ix (.var 1) (.int 1))) .anil)))) .skip)
def f_plus : Fn := ⟨2, 2, B_plus⟩
abbrev i_plus : Nat := 4
def N_times : List Str := ["one", "other"]
def B_times : MS := (.seq (.ret (.call 2 (.acons (.bin .mul (.ix (.var 0) (.int 0)) (.ix (.var 1) (.int 0))) (.acons (.bin .mul (.ix (.var 0) (.int 1)) (.ix (.var 1) (.int 1))) .anil)))) .skip)
def f_times : Fn := ⟨2, 2, B_times⟩
abbrev i_times : Nat := 5
def N_inner : List Str := ["one", "other", "result", "first", "second"]
def B_inner : MS := (.seq (.set 2 (.tup (.acons (.int 0) (.acons (.int 1) .anil)))) (.seq (.for_ .zip (.acons (.var 0) (.acons (.var 1) .anil)) (.many [3, 4]) (.seq (.ife (.and (.cmp .ne (.ix (.var 3) (.int 0)) (.int 0)) (.cmp .ne (.ix (.var 4) (.int 0)) (.int 0))) (.seq (.set 2 (.call 4 (.acons (.var 2) (.acons (.call 5 (.acons (.var 3) (.acons (.var 4) .anil))) .anil)))) .skip) .skip) .skip)) (.seq (.ret (.var 2)) .skip)))
def f_inner : Fn := ⟨2, 5, B_inner⟩
abbrev i_inner : Nat := 7
def N_whole : List Str := ["value"]
def B_whole : MS := (.seq (.ret (.tup (.acons (.var 0) (.acons (.int 1) .anil)))) .skip)
def f_whole : Fn := ⟨1, 1, B_whole⟩
abbrev i_whole : Nat := 8
def N_is_light : List Str := ["value", "part"]
def B_is_light : MS := (.seq (.ife (.or (.not (.isi (.var 0) .tuple)) (.not (.chain .le .le (.int 1) (.blt .len (.acons (.var 0) .anil)) (.glo 1)))) (.seq (.ret (.bl false)) .skip) .skip) (.seq (.ret (.not (.comp .seq (.acons (.var 0) .anil) (.one 1) (.not (.call 3 (.acons (.var 1) .anil))) (.var 1) [1]))) .skip))
def f_is_light : Fn := ⟨1, 2, B_is_light⟩
abbrev i_is_light : Nat := 20
def N_is_light_for : List Str := ["bands", "value"]
def B_is_light_for : MS := (.seq (.ret (.and (.call 20 (.acons (.var 1) .anil)) (.cmp .eq (.blt .len (.acons (.var 1) .anil)) (.var 0)))) .skip)
def f_is_light_for : Fn := ⟨2, 2, B_is_light_for⟩
abbrev i_is_light_for : Nat := 21
def N_check_lights : List Str := ["bands", "lights", "most", "light"]
def B_check_lights : MS := (.seq (.ife (.or (.not (.isi (.var 1) .tuple)) (.not (.chain .le .le (.int 1) (.blt .len (.acons (.var 1) .anil)) (.var 2)))) (.seq .never .skip) .skip) (.seq (.ife (.comp .seq (.acons (.var 1) .anil) (.one 3) (.not (.call 21 (.acons (.var 0) (.acons (.var 3) .anil)))) (.var 3) [3]) (.seq .never .skip) .skip) .skip))
def f_check_lights : Fn := ⟨3, 4, B_check_lights⟩
abbrev i_check_lights : Nat := 22
def N_is_surface : List Str := ["value", "share"]
def B_is_surface : MS := (.seq (.ife (.or (.not (.isi (.var 0) .tuple)) (.not (.chain .le .le (.int 1) (.blt .len (.acons (.var 0) .anil)) (.glo 1)))) (.seq (.ret (.bl false)) .skip) .skip) (.seq (.ret (.not (.comp .seq (.acons (.var 0) .anil) (.one 1) (.or (.not (.call 3 (.acons (.var 1) .anil))) (.cmp .gt (.ix (.var 1) (.int 0)) (.ix (.var 1) (.int 1)))) (.var 1) [1]))) .skip))
def f_is_surface : Fn := ⟨1, 2, B_is_surface⟩
abbrev i_is_surface : Nat := 23
def N_is_surface_for : List Str := ["bands", "value"]
def B_is_surface_for : MS := (.seq (.ret (.and (.call 23 (.acons (.var 1) .anil)) (.cmp .eq (.blt .len (.acons (.var 1) .anil)) (.var 0)))) .skip)
def f_is_surface_for : Fn := ⟨2, 2, B_is_surface_for⟩
abbrev i_is_surface_for : Nat := 24
def N_check_surfaces : List Str := ["bands", "surfaces", "surface"]
def B_check_surfaces : MS := (.seq (.ife (.or (.not (.isi (.var 1) .tuple)) (.not (.chain .le .le (.int 1) (.blt .len (.acons (.var 1) .anil)) (.glo 4)))) (.seq .never .skip) .skip) (.seq (.ife (.comp .seq (.acons (.var 1) .anil) (.one 2) (.not (.call 24 (.acons (.var 0) (.acons (.var 2) .anil)))) (.var 2) [2]) (.seq .never .skip) .skip) .skip))
def f_check_surfaces : Fn := ⟨2, 3, B_check_surfaces⟩
abbrev i_check_surfaces : Nat := 106
def N_is_answer : List Str := ["value", "weight"]
def B_is_answer : MS := (.seq (.ife (.or (.not (.isi (.var 0) .tuple)) (.not (.chain .le .le (.int 1) (.blt .len (.acons (.var 0) .anil)) (.glo 1)))) (.seq (.ret (.bl false)) .skip) .skip) (.seq (.ife (.comp .seq (.acons (.var 0) .anil) (.one 1) (.not (.call 1 (.acons (.var 1) (.acons (.int 0) (.acons (.int 9) .anil))))) (.var 1) [1]) (.seq (.ret (.bl false)) .skip) .skip) (.seq (.ret (.cmp .gt (.blt .sum (.acons (.var 0) .anil)) (.int 0))) .skip)))
def f_is_answer : Fn := ⟨1, 2, B_is_answer⟩
abbrev i_is_answer : Nat := 25
def N_is_eye : List Str := ["value", "answer"]
def B_is_eye : MS := (.seq (.ife (.or (.not (.isi (.var 0) .tuple)) (.not (.chain .le .le (.int 1) (.blt .len (.acons (.var 0) .anil)) (.int 3)))) (.seq (.ret (.bl false)) .skip) .skip) (.seq (.ife (.comp .seq (.acons (.var 0) .anil) (.one 1) (.not (.call 25 (.acons (.var 1) .anil))) (.var 1) [1]) (.seq (.ret (.bl false)) .skip) .skip) (.seq (.ret (.not (.comp .seq (.acons (.var 0) .anil) (.one 1) (.cmp .ne (.blt .len (.acons (.var 1) .anil)) (.blt .len (.acons (.ix (.var 0) (.int 0)) .anil))) (.var 1) [1]))) .skip)))
def f_is_eye : Fn := ⟨1, 2, B_is_eye⟩
abbrev i_is_eye : Nat := 26
def N_check_eye : List Str := ["eye"]
def B_check_eye : MS := (.seq (.ife (.not (.call 26 (.acons (.var 0) .anil))) (.seq .never .skip) .skip) .skip)
def f_check_eye : Fn := ⟨1, 1, B_check_eye⟩
abbrev i_check_eye : Nat := 27
def N_lit : List Str := ["light", "surface", "one", "other"]
def B_lit : MS := (.seq (.ret (.comp .zip (.acons (.var 0) (.acons (.var 1) .anil)) (.many [2, 3]) .nothing (.tup (.acons (.bin .mul (.ix (.var 2) (.int 0)) (.ix (.var 3) (.int 0))) (.acons (.bin .mul (.ix (.var 2) (.int 1)) (.ix (.var 3) (.int 1))) .anil))) [2, 3])) .skip)
def f_lit : Fn := ⟨2, 4, B_lit⟩
abbrev i_lit : Nat := 29
def N_answer_of : List Str := ["weights", "light", "surface", "weight"]
def B_answer_of : MS := (.seq (.ret (.call 7 (.acons (.comp .seq (.acons (.var 0) .anil) (.one 3) .nothing (.call 8 (.acons (.var 3) .anil)) [3]) (.acons (.call 29 (.acons (.var 1) (.acons (.var 2) .anil))) .anil)))) .skip)
def f_answer_of : Fn := ⟨3, 4, B_answer_of⟩
abbrev i_answer_of : Nat := 30
def N_color_of : List Str := ["eye", "light", "surface", "weights"]
def B_color_of : MS := (.seq (.ret (.blt .tuple (.acons (.comp .seq (.acons (.var 0) .anil) (.one 3) .nothing (.call 30 (.acons (.var 3) (.acons (.var 1) (.acons (.var 2) .anil)))) [3]) .anil))) .skip)
def f_color_of : Fn := ⟨3, 4, B_color_of⟩
abbrev i_color_of : Nat := 74
def N_check_parting : List Str := ["eye", "lights", "surfaces"]
def B_check_parting : MS := (.seq (.expr (.call 27 (.acons (.var 0) .anil))) (.seq (.expr (.call 22 (.acons (.blt .len (.acons (.ix (.var 0) (.int 0)) .anil)) (.acons (.var 1) (.acons (.glo 5) .anil))))) (.seq (.expr (.call 106 (.acons (.blt .len (.acons (.ix (.var 0) (.int 0)) .anil)) (.acons (.var 2) .anil)))) .skip)))
def f_check_parting : Fn := ⟨3, 3, B_check_parting⟩
abbrev i_check_parting : Nat := 107
def N_looks : List Str := ["eye", "lights", "surfaces", "surface", "light"]
def B_looks : MS := (.seq (.ret (.comp .seq (.acons (.var 2) .anil) (.one 3) .nothing (.comp .seq (.acons (.var 1) .anil) (.one 4) .nothing (.call 74 (.acons (.var 0) (.acons (.var 4) (.acons (.var 3) .anil)))) [4]) [3])) .skip)
def f_looks : Fn := ⟨3, 5, B_looks⟩
abbrev i_looks : Nat := 108
def N_groups : List Str := ["eye", "lights", "surfaces", "found", "firsts", "first", "place", "row"]
def B_groups : MS := (.seq (.expr (.call 107 (.acons (.var 0) (.acons (.var 1) (.acons (.var 2) .anil))))) (.seq (.set 3 (.call 108 (.acons (.var 0) (.acons (.var 1) (.acons (.var 2) .anil))))) (.seq (.set 4 (.comp .enum (.acons (.var 3) .anil) (.many [6, 7]) (.cmp .notIn (.var 7) (.sl (.var 3) .nothing (.var 6))) (.var 6) [6, 7])) (.seq (.ret (.comp .seq (.acons (.var 4) .anil) (.one 5) .nothing (.blt .tuple (.acons (.comp .enum (.acons (.var 3) .anil) (.many [6, 7]) (.cmp .eq (.var 7) (.ix (.var 3) (.var 5))) (.var 6) [6, 7]) .anil)) [5])) .skip))))
def f_groups : Fn := ⟨3, 8, B_groups⟩
abbrev i_groups : Nat := 109
def N_l_cell : List Str := ["_law_script", "_law_k"]
def B_l_cell : MS := (.seq (.ife (.cmp .lt (.var 1) (.blt .len (.acons (.var 0) .anil))) (.seq (.ret (.ix (.var 0) (.var 1))) .skip) .skip) (.seq (.ret (.int 0)) .skip))
def f_l_cell : Fn := ⟨2, 2, B_l_cell⟩
abbrev i_l_cell : Nat := 44
def N_l_row : List Str := ["_law_script", "_law_at", "_law_cell_here", "_law_found", "_law_time"]
def B_l_row : MS := (.seq (.set 2 (.call 44 (.acons (.var 0) (.acons (.var 1) .anil)))) (.seq (.setOwn 3 (.lst .anil)) (.seq (.for_ .range1 (.acons (.int 60) .anil) (.one 4) (.seq (.ife (.cmp .lt (.call 44 (.acons (.var 0) (.acons (.var 1) .anil))) (.bin .pow (.int 10) (.int 18))) (.seq (.set 2 (.bin .mod (.bin .add (.bin .add (.bin .add (.bin .mul (.var 2) (.int 48271)) (.bin .mul (.int 131) (.var 4))) (.int 7)) (.call 44 (.acons (.var 0) (.acons (.bin .mod (.bin .add (.bin .add (.var 1) (.int 1)) (.var 4)) (.int 20)) .anil)))) (.int 2147483647))) (.seq (.append 3 (.bin .mod (.bin .fdiv (.var 2) (.int 11)) (.int 1000))) .skip)) (.seq (.append 3 (.bin .mod (.var 2) (.int 1000))) (.seq (.set 2 (.bin .fdiv (.var 2) (.int 1000))) .skip))) .skip)) (.seq (.pub 3 (.ret (.var 3))) .skip))))
def f_l_row : Fn := ⟨2, 5, B_l_row⟩
abbrev i_l_row : Nat := 45
def N_l_part : List Str := ["_law_top", "_law_bottom", "_law_one", "_law_other"]
def B_l_part : MS := (.seq (.par [(false, 2), (false, 3)] (.acons (.blt .abs (.acons (.var 0) .anil)) (.acons (.var 1) .anil))) (.seq (.whl (.cmp .gt (.var 3) (.int 0)) (.seq (.par [(false, 2), (false, 3)] (.acons (.var 3) (.acons (.bin .mod (.blt .int (.acons (.var 2) .anil)) (.var 3)) .anil))) .skip)) (.seq (.ret (.tup (.acons (.bin .fdiv (.var 0) (.var 2)) (.acons (.bin .fdiv (.var 1) (.var 2)) .anil)))) .skip)))
def f_l_part : Fn := ⟨2, 4, B_l_part⟩
abbrev i_l_part : Nat := 46
def N_l_add : List Str := ["_law_one", "_law_other"]
def B_l_add : MS := (.seq (.ret (.call 46 (.acons (.bin .add (.bin .mul (.ix (.var 0) (.int 0)) (.ix (.var 1) (.int 1))) (.bin .mul (.ix (.var 1) (.int 0)) (.ix (.var 0) (.int 1)))) (.acons (.bin .mul (.ix (.var 0) (.int 1)) (.ix (.var 1) (.int 1))) .anil)))) .skip)
def f_l_add : Fn := ⟨2, 2, B_l_add⟩
abbrev i_l_add : Nat := 47
def N_l_mul : List Str := ["_law_one", "_law_other"]
def B_l_mul : MS := (.seq (.ret (.call 46 (.acons (.bin .mul (.ix (.var 0) (.int 0)) (.ix (.var 1) (.int 0))) (.acons (.bin .mul (.ix (.var 0) (.int 1)) (.ix (.var 1) (.int 1))) .anil)))) .skip)
def f_l_mul : Fn := ⟨2, 2, B_l_mul⟩
abbrev i_l_mul : Nat := 48
def N_l_dot : List Str := ["_law_one", "_law_other", "_law_result", "_law_first", "_law_second"]
def B_l_dot : MS := (.seq (.set 2 (.tup (.acons (.int 0) (.acons (.int 1) .anil)))) (.seq (.for_ .zip (.acons (.var 0) (.acons (.var 1) .anil)) (.many [3, 4]) (.seq (.set 2 (.call 47 (.acons (.var 2) (.acons (.call 48 (.acons (.var 3) (.acons (.var 4) .anil))) .anil)))) .skip)) (.seq (.ret (.var 2)) .skip)))
def f_l_dot : Fn := ⟨2, 5, B_l_dot⟩
abbrev i_l_dot : Nat := 50
def N_l_eye : List Str := ["_law_draws", "_law_at", "_law_bands", "_law_most", "_law_found", "_law_number", "_law_row_here", "_law_band", "_law_spot"]
def B_l_eye : MS := (.seq (.setOwn 4 (.lst .anil)) (.seq (.for_ .range1 (.acons (.bin .add (.int 1) (.bin .mod (.ix (.var 0) (.bin .mod (.var 1) (.int 60))) (.var 3))) .anil) (.one 5) (.seq (.setOwn 6 (.lst .anil)) (.seq (.for_ .range1 (.acons (.var 2) .anil) (.one 7) (.seq (.set 8 (.bin .mod (.bin .add (.bin .add (.var 1) (.bin .mul (.int 7) (.var 5))) (.bin .mul (.int 3) (.var 7))) (.int 60))) (.seq (.append 6 (.ix (.lst (.acons (.int 0) (.acons (.int 1) (.acons (.int 2) (.acons (.int 3) (.acons (.int 0) (.acons (.int 1) .anil))))))) (.bin .mod (.ix (.var 0) (.var 8)) (.int 6)))) .skip))) (.seq (.ife (.cmp .eq (.blt .sum (.acons (.var 6) .anil)) (.int 0)) (.seq (.setix 6 (.bin .mod (.ix (.var 0) (.bin .mod (.bin .add (.var 1) (.var 5)) (.int 60))) (.var 2)) (.int 1)) .skip) .skip) (.seq (.append 4 (.blt .tuple (.acons (.var 6) .anil))) .skip))))) (.seq (.ret (.blt .tuple (.acons (.var 4) .anil))) .skip)))
def f_l_eye : Fn := ⟨4, 9, B_l_eye⟩
abbrev i_l_eye : Nat := 51
def N_l_light : List Str := ["_law_draws", "_law_at", "_law_bands", "_law_found", "_law_band", "_law_spot"]
def B_l_light : MS := (.seq (.setOwn 3 (.lst .anil)) (.seq (.for_ .range1 (.acons (.var 2) .anil) (.one 4) (.seq (.set 5 (.bin .mod (.ix (.var 0) (.bin .mod (.bin .add (.var 1) (.bin .mul (.int 2) (.var 4))) (.int 60))) (.int 9))) (.seq (.append 3 (.ix (.lst (.acons (.tup (.acons (.int 0) (.acons (.int 1) .anil))) (.acons (.tup (.acons (.int 1) (.acons (.int 1) .anil))) (.acons (.tup (.acons (.int 2) (.acons (.int 1) .anil))) (.acons (.tup (.acons (.int 3) (.acons (.int 1) .anil))) (.acons (.tup (.acons (.int 1) (.acons (.int 2) .anil))) (.acons (.tup (.acons (.int 3) (.acons (.int 2) .anil))) (.acons (.tup (.acons (.int 1) (.acons (.int 3) .anil))) (.acons (.tup (.acons (.int 5) (.acons (.int 1) .anil))) (.acons (.tup (.acons (.int 1) (.acons (.int 1) .anil))) .anil)))))))))) (.var 5))) .skip))) (.seq (.ret (.blt .tuple (.acons (.var 3) .anil))) .skip)))
def f_l_light : Fn := ⟨3, 6, B_l_light⟩
abbrev i_l_light : Nat := 52
def N_l_surface : List Str := ["_law_draws", "_law_at", "_law_bands", "_law_found", "_law_band", "_law_spot"]
def B_l_surface : MS := (.seq (.setOwn 3 (.lst .anil)) (.seq (.for_ .range1 (.acons (.var 2) .anil) (.one 4) (.seq (.set 5 (.bin .mod (.ix (.var 0) (.bin .mod (.bin .add (.var 1) (.bin .mul (.int 3) (.var 4))) (.int 60))) (.int 9))) (.seq (.append 3 (.ix (.lst (.acons (.tup (.acons (.int 0) (.acons (.int 1) .anil))) (.acons (.tup (.acons (.int 1) (.acons (.int 1) .anil))) (.acons (.tup (.acons (.int 1) (.acons (.int 2) .anil))) (.acons (.tup (.acons (.int 1) (.acons (.int 3) .anil))) (.acons (.tup (.acons (.int 2) (.acons (.int 3) .anil))) (.acons (.tup (.acons (.int 1) (.acons (.int 4) .anil))) (.acons (.tup (.acons (.int 3) (.acons (.int 4) .anil))) (.acons (.tup (.acons (.int 1) (.acons (.int 5) .anil))) (.acons (.tup (.acons (.int 1) (.acons (.int 1) .anil))) .anil)))))))))) (.var 5))) .skip))) (.seq (.ret (.blt .tuple (.acons (.var 3) .anil))) .skip)))
def f_l_surface : Fn := ⟨3, 6, B_l_surface⟩
abbrev i_l_surface : Nat := 53
def N_l_answer : List Str := ["_law_weights", "_law_light_here", "_law_surface_here", "_law_one", "_law_other"]
def B_l_answer : MS := (.seq (.ret (.call 50 (.acons (.comp .zip (.acons (.var 0) (.acons (.var 1) .anil)) (.many [3, 4]) .nothing (.call 48 (.acons (.tup (.acons (.var 3) (.acons (.int 1) .anil))) (.acons (.var 4) .anil))) [3, 4]) (.acons (.var 2) .anil)))) .skip)
def f_l_answer : Fn := ⟨3, 5, B_l_answer⟩
abbrev i_l_answer : Nat := 54
def N_l_color : List Str := ["_law_eye_here", "_law_light_here", "_law_surface_here", "_law_weights"]
def B_l_color : MS := (.seq (.ret (.blt .tuple (.acons (.comp .seq (.acons (.var 0) .anil) (.one 3) .nothing (.call 54 (.acons (.var 3) (.acons (.var 1) (.acons (.var 2) .anil)))) [3]) .anil))) .skip)
def f_l_color : Fn := ⟨3, 4, B_l_color⟩
abbrev i_l_color : Nat := 55
def N_l_lights : List Str := ["_law_draws", "_law_at", "_law_bands", "_law_most", "_law_time"]
def B_l_lights : MS := (.seq (.ret (.blt .tuple (.acons (.comp .range1 (.acons (.bin .add (.int 1) (.bin .mod (.ix (.var 0) (.bin .mod (.var 1) (.int 60))) (.var 3))) .anil) (.one 4) .nothing (.call 52 (.acons (.var 0) (.acons (.bin .add (.var 1) (.bin .mul (.int 7) (.var 4))) (.acons (.var 2) .anil)))) [4]) .anil))) .skip)
def f_l_lights : Fn := ⟨4, 5, B_l_lights⟩
abbrev i_l_lights : Nat := 56
def N_law_k36 : List Str := ["_law_script", "_law_draws", "_law_bands", "_law_surfaces", "_law_rows", "_law_due", "_law_eye_here", "_law_lights_here", "_law_place", "_law_row_here", "_law_time", "_law_surface_here", "_law_light_here", "_law_other", "_law_more"]
def B_law_k36 : MS := (.seq (.set 1 (.call 45 (.acons (.var 0) (.acons (.int 4) .anil)))) (.seq (.set 2 (.bin .add (.int 1) (.bin .mod (.ix (.var 1) (.int 50)) (.int 3)))) (.seq (.unpack [6, 7] (.tup (.acons (.call 51 (.acons (.var 1) (.acons (.int 0) (.acons (.var 2) (.acons (.int 2) .anil))))) (.acons (.call 56 (.acons (.var 1) (.acons (.int 13) (.acons (.var 2) (.acons (.int 3) .anil))))) .anil)))) (.seq (.set 3 (.comp .range1 (.acons (.bin .add (.int 1) (.bin .mod (.ix (.var 1) (.int 51)) (.int 4))) .anil) (.one 10) .nothing (.call 53 (.acons (.var 1) (.acons (.bin .mul (.int 7) (.var 10)) (.acons (.var 2) .anil)))) [10])) (.seq (.set 3 (.blt .tuple (.acons (.bin .add (.var 3) (.sl (.var 3) .nothing (.bin .mod (.ix (.var 1) (.int 52)) (.int 2)))) .anil))) (.seq (.set 4 (.comp .seq (.acons (.var 3) .anil) (.one 11) .nothing (.comp .seq (.acons (.var 7) .anil) (.one 12) .nothing (.call 55 (.acons (.var 6) (.acons (.var 12) (.acons (.var 11) .anil)))) [12]) [11])) (.seq (.setOwn 5 (.lst .anil)) (.seq (.for_ .enum (.acons (.var 4) .anil) (.many [8, 9]) (.seq (.ife (.cmp .notIn (.var 9) (.sl (.var 4) .nothing (.var 8))) (.seq (.append 5 (.blt .tuple (.acons (.comp .enum (.acons (.var 4) .anil) (.many [13, 14]) (.cmp .eq (.var 14) (.var 9)) (.var 13) [13, 14]) .anil))) .skip) .skip) .skip)) (.seq (.ret (.cmp .eq (.call 109 (.acons (.var 6) (.acons (.var 7) (.acons (.var 3) .anil)))) (.var 5))) .skip)))))))))
def f_law_k36 : Fn := ⟨1, 15, B_law_k36⟩
abbrev i_law_k36 : Nat := 110

def LD : LawD where
  ents := [
    ⟨i_gcd, "gcd", N_gcd, f_gcd⟩,
    ⟨i_in_range, "in_range", N_in_range, f_in_range⟩,
    ⟨i_fraction, "fraction", N_fraction, f_fraction⟩,
    ⟨i_is_fraction, "is_fraction", N_is_fraction, f_is_fraction⟩,
    ⟨i_plus, "plus", N_plus, f_plus⟩,
    ⟨i_times, "times", N_times, f_times⟩,
    ⟨i_inner, "inner", N_inner, f_inner⟩,
    ⟨i_whole, "whole", N_whole, f_whole⟩,
    ⟨i_is_light, "is_light", N_is_light, f_is_light⟩,
    ⟨i_is_light_for, "is_light_for", N_is_light_for, f_is_light_for⟩,
    ⟨i_check_lights, "check_lights", N_check_lights, f_check_lights⟩,
    ⟨i_is_surface, "is_surface", N_is_surface, f_is_surface⟩,
    ⟨i_is_surface_for, "is_surface_for", N_is_surface_for, f_is_surface_for⟩,
    ⟨i_check_surfaces, "check_surfaces", N_check_surfaces, f_check_surfaces⟩,
    ⟨i_is_answer, "is_answer", N_is_answer, f_is_answer⟩,
    ⟨i_is_eye, "is_eye", N_is_eye, f_is_eye⟩,
    ⟨i_check_eye, "check_eye", N_check_eye, f_check_eye⟩,
    ⟨i_lit, "lit", N_lit, f_lit⟩,
    ⟨i_answer_of, "answer_of", N_answer_of, f_answer_of⟩,
    ⟨i_color_of, "color_of", N_color_of, f_color_of⟩,
    ⟨i_check_parting, "check_parting", N_check_parting, f_check_parting⟩,
    ⟨i_looks, "looks", N_looks, f_looks⟩,
    ⟨i_groups, "groups", N_groups, f_groups⟩,
    ⟨i_l_cell, "_law_cell", N_l_cell, f_l_cell⟩,
    ⟨i_l_row, "_law_row", N_l_row, f_l_row⟩,
    ⟨i_l_part, "_law_part", N_l_part, f_l_part⟩,
    ⟨i_l_add, "_law_add", N_l_add, f_l_add⟩,
    ⟨i_l_mul, "_law_mul", N_l_mul, f_l_mul⟩,
    ⟨i_l_dot, "_law_dot", N_l_dot, f_l_dot⟩,
    ⟨i_l_eye, "_law_eye", N_l_eye, f_l_eye⟩,
    ⟨i_l_light, "_law_light", N_l_light, f_l_light⟩,
    ⟨i_l_surface, "_law_surface", N_l_surface, f_l_surface⟩,
    ⟨i_l_answer, "_law_answer", N_l_answer, f_l_answer⟩,
    ⟨i_l_color, "_law_color", N_l_color, f_l_color⟩,
    ⟨i_l_lights, "_law_lights", N_l_lights, f_l_lights⟩,
    ⟨i_law_k36, "law", N_law_k36, f_law_k36⟩]
  gis := [(0, "LIMIT", 1000000000000000000000000000000), (1, "MOST_BANDS", 5), (4, "MOST_SURFACES", 6), (5, "MOST_LIGHTS", 4)]
  gss := []
  F := 2 ^ 40
end EV

/-! EvStep: the evaluator, step by step; loops by invariants. -/
namespace EV
open PySem
def clT (T : Tab) (k : Nat) : Cl := ⟨callF T k, T.glo, fun g => (T.fn g).isSome⟩
def run (m : M Out) : M D := fun s => fin (m s)
theorem callF_eq {T : Tab} {k f : Nat} {fn : Fn} {ds : List D} (hf : T.fn f = some fn) (hl : ds.length = fn.np) : callF T (k + 1) f ds = run (ex (clT T k) T.F fn.body (start fn.ns ds)) := by
  show (match T.fn f with
    | some fn => (if ds.length = fn.np then _ else M.stuck : M D)
    | none => M.stuck) = _
  rw [hf]
  dsimp only
  rw [if_pos hl]
  rfl
theorem z_run_ret (d : D) : run (pure (.ret d)) = pure d := Eq.trans rfl rfl
theorem z_run_nx (ρ : Env) : run (pure (.nx ρ)) = pure .non := Eq.trans rfl rfl
theorem z_run_thr (c : Nat) (ρ : Env) : run (pure (.thr c ρ)) = M.raise c := Eq.trans rfl rfl
section
variable {X : Cl} {F : Nat} {ρ : Env} {a b : MS} {e : ME} {d : D} {f : D → M Out}
theorem z_lft_pure : lft ρ (pure d) f = f d := Eq.trans rfl rfl
theorem z_lft_raise {c : Nat} : lft ρ (M.raise c) f = pure (.thr c ρ) := Eq.trans rfl rfl
theorem z_lftA_pure {α : Type} {x : α} {g : α → M Out} : lftA ρ (pure x) g = g x := Eq.trans rfl rfl
theorem z_lftA_raise {α : Type} {c : Nat} {g : α → M Out} : lftA ρ (M.raise c) g = pure (.thr c ρ) := Eq.trans rfl rfl
theorem z_thenO_nx {f : Env → M Out} : thenO (pure (.nx ρ)) f = f ρ := Eq.trans rfl rfl
theorem z_thenO_ct {f : Env → M Out} : thenO (pure (.ct ρ)) f = pure (.ct ρ) := Eq.trans rfl rfl
theorem z_thenO_ret {f : Env → M Out} : thenO (pure (.ret d)) f = pure (.ret d) := Eq.trans rfl rfl
theorem z_thenO_thr {f : Env → M Out} {c : Nat} : thenO (pure (.thr c ρ)) f = pure (.thr c ρ) := Eq.trans rfl rfl
theorem z_ex_skip : ex X F .skip ρ = pure (.nx ρ) := Eq.trans rfl rfl
theorem z_ex_seq : ex X F (.seq a b) ρ = thenO (ex X F a ρ) (ex X F b) := Eq.trans rfl rfl
theorem z_ex_cont : ex X F .cont ρ = pure (.ct ρ) := Eq.trans rfl rfl
theorem z_ex_pub {i : Nat} : ex X F (.pub i a) ρ = (match ρ[i]? with | some (.own ds) => ex X F a (setV ρ i (.lst ds)) | _ => ex X F a ρ) := Eq.trans rfl rfl
theorem z_ex_set {i : Nat} : ex X F (.set i e) ρ = lft ρ (evE X e ρ) fun d => pure (.nx (setV ρ i d)) := Eq.trans rfl rfl
theorem z_ex_setOwn {i : Nat} : ex X F (.setOwn i e) ρ = lft ρ (evE X e ρ) fun d => match d with | .lst ds => pure (.nx (ρ.set i (.own ds))) | _ => M.stuck := Eq.trans rfl rfl
theorem z_ex_unpack {is : List Nat} : ex X F (.unpack is e) ρ = lft ρ (evE X e ρ) fun d => (bindT (.many is) d ρ >>= fun ρ' => pure (.nx ρ')) := Eq.trans rfl rfl
theorem z_ex_par {own : List (Bool × Nat)} : ex X F (.par own e) ρ = lftA ρ (evA X e ρ) fun ds => match setOwns own ds ρ with | some ρ' => pure (.nx ρ') | none => M.stuck := Eq.trans rfl rfl
theorem z_ex_append {i : Nat} : ex X F (.append i e) ρ = lftA ρ (getL ρ i) fun _ => lft ρ (evE X e ρ) fun d => (getL ρ i >>= fun ds => if ds.length < lim then (putL ρ i (ds ++ [d]) >>= fun ρ' => pure (.nx ρ')) else M.stuck) := Eq.trans rfl rfl
theorem z_ex_extend {i : Nat} : ex X F (.extend i e) ρ = lftA ρ (getL ρ i) fun _ => lft ρ (via ρ e (evE X e ρ)) fun d => (getL ρ i >>= fun ds => view d >>= fun d => match d with | .lst es => (if ds.length + es.length ≤ lim then (putL ρ i (ds ++ es) >>= fun ρ' => pure (.nx ρ')) else M.stuck) | _ => M.stuck) := Eq.trans rfl rfl
theorem z_ex_setix {i : Nat} {j : ME} : ex X F (.setix i j e) ρ = lft ρ (evE X e ρ) fun d => lftA ρ (getL ρ i) fun _ => lft ρ (evE X j ρ) fun k => (getL ρ i >>= fun ds => match k with | .int k => (match ixN ds.length k with | some k => (putL ρ i (ds.set k d) >>= fun ρ' => pure (.nx ρ')) | none => M.stuck) | _ => M.stuck) := Eq.trans rfl rfl
theorem z_ex_expr : ex X F (.expr e) ρ = lft ρ (evE X e ρ) fun _ => pure (.nx ρ) := Eq.trans rfl rfl
theorem z_ex_ife {c : ME} : ex X F (.ife c a b) ρ = lftA ρ (via ρ c (evE X c ρ) >>= fun x => view x >>= fun x => truth x) fun t => if t then ex X F a ρ else ex X F b ρ := Eq.trans rfl rfl
theorem y_ex_whl {c : ME} : ex X F (.whl c a) ρ = whlL (fun ρ' => via ρ' c (evE X c ρ') >>= fun x => view x >>= fun x => truth x) (ex X F a) F ρ := rfl
theorem y_ex_for {k : It} {es : ME} {tg : Tg} : ex X F (.for_ k es tg a) ρ = lftA ρ (evI X false k es ρ) fun z => forL (still z.1 z.2.1) tg (ex X F a) z.2.2 ρ := rfl
theorem z_ex_ret : ex X F (.ret e) ρ = lft ρ (evE X e ρ) fun d => pure (.ret d) := Eq.trans rfl rfl
theorem z_ex_retN : ex X F .retN ρ = pure (.ret .non) := Eq.trans rfl rfl
theorem z_ex_raise {c : Nat} : ex X F (.raise c) ρ = pure (.thr c ρ) := Eq.trans rfl rfl
theorem z_ex_aug {i : Nat} : ex X F (.aug i .add e) ρ = lft ρ (getV ρ i) fun x => lft ρ (evE X e ρ) fun y => lft ρ (match x, y with | .int a, .int b => pure (.int (a + b)) | _, _ => M.stuck) fun d => pure (.nx (setV ρ i d)) := Eq.trans rfl rfl
end
/-! ### expressions -/
section
variable {X : Cl} {ρ : Env} {a b c m es : ME}
theorem z_ev_var {i : Nat} : evE X (.var i) ρ = getV ρ i := Eq.trans rfl rfl
theorem z_ev_int {i : Int} : evE X (.int i) ρ = pure (.int i) := Eq.trans rfl rfl
theorem z_ev_bl {i : Bool} : evE X (.bl i) ρ = pure (.bl i) := Eq.trans rfl rfl
theorem z_ev_non : evE X .non ρ = pure .non := Eq.trans rfl rfl
theorem z_ev_str {x : Str} : evE X (.str x) ρ = pure (.str x) := Eq.trans rfl rfl
theorem z_ev_glo {g : Nat} : evE X (.glo g) ρ = (match X.glo g with | some d => pure d | none => M.stuck) := Eq.trans rfl rfl
theorem z_ev_tup : evE X (.tup es) ρ = (evA X es ρ >>= fun ds => if ds.length ≤ 1000 then pure (.tup ds) else M.stuck) := Eq.trans rfl rfl
theorem z_ev_lst : evE X (.lst es) ρ = (evA X es ρ >>= fun ds => if ds.length ≤ 1000 then pure (.lst ds) else M.stuck) := Eq.trans rfl rfl
theorem z_ev_bin {op : BOp} : evE X (.bin op a b) ρ = (via ρ a (evE X a ρ) >>= fun x => via ρ b (evE X b ρ) >>= fun y => view x >>= fun x => view y >>= fun y => bop op x y) := Eq.trans rfl rfl
theorem z_ev_neg : evE X (.neg a) ρ = (evE X a ρ >>= fun d => match d with | .int i => pure (.int (-i)) | _ => M.stuck) := Eq.trans rfl rfl
theorem z_ev_not : evE X (.not a) ρ = (via ρ a (evE X a ρ) >>= fun x => view x >>= fun x => truth x >>= fun t => pure (.bl (!t))) := Eq.trans rfl rfl
theorem z_ev_and : evE X (.and a b) ρ = (evE X a ρ >>= fun x => truth x >>= fun t => if t then evE X b ρ else pure x) := Eq.trans rfl rfl
theorem z_ev_or : evE X (.or a b) ρ = (evE X a ρ >>= fun x => truth x >>= fun t => if t then pure x else evE X b ρ) := Eq.trans rfl rfl
theorem z_ev_cmp {op : COp} : evE X (.cmp op a b) ρ = (via ρ a (evE X a ρ) >>= fun x => via ρ b (evE X b ρ) >>= fun y => view x >>= fun x => view y >>= fun y => cop op x y) := Eq.trans rfl rfl
theorem z_ev_chain {op op' : COp} : evE X (.chain op op' a b c) ρ = (evE X a ρ >>= fun x => evE X b ρ >>= fun y => cop op x y >>= fun t => match t with | .bl true => (evE X c ρ >>= fun z => cop op' y z) | .bl false => pure (.bl false) | _ => M.stuck) := Eq.trans rfl rfl
theorem z_ev_ite : evE X (.ite c a b) ρ = (via ρ c (evE X c ρ) >>= fun x => view x >>= fun x => truth x >>= fun t => if t then evE X a ρ else evE X b ρ) := Eq.trans rfl rfl
theorem z_ev_ix : evE X (.ix a b) ρ = (via ρ a (evE X a ρ) >>= fun x => evE X b ρ >>= fun y => view x >>= fun x => index x y) := Eq.trans rfl rfl
theorem z_ev_sl {lo hi : ME} : evE X (.sl a lo hi) ρ = (via ρ a (evE X a ρ) >>= fun x => endM lo (evE X lo ρ) >>= fun l => endM hi (evE X hi ρ) >>= fun h => view x >>= fun x => slice x l h) := Eq.trans rfl rfl
theorem z_ev_call {f : Nat} : evE X (.call f es) ρ = (evA X es ρ >>= fun ds => callM es (X.call f ds)) := Eq.trans rfl rfl
theorem z_ev_blt {f : Bf} : evE X (.blt f es) ρ = (evV X es ρ >>= fun ds => viewAll ds >>= fun ds => bfn f ds) := Eq.trans rfl rfl
theorem z_ev_isi {ty : Ty} : evE X (.isi a ty) ρ = (evE X a ρ >>= fun x => isTy ty x >>= fun t => pure (.bl t)) := Eq.trans rfl rfl
theorem y_ev_comp {k : It} {tg : Tg} {own : List Nat} : evE X (.comp k es tg c m own) ρ = (evV X es ρ >>= fun as => viewAll as >>= fun bs => walk k bs >>= fun ds => turns (still as bs) tg (fun ρ' => M.calm (condM c (via ρ' c (evE X c ρ')))) (fun ρ' => M.calm (evE X m ρ')) (wipe ρ own) ds >>= fun ys => pure (.lst ys)) := rfl
theorem z_ea_nil : evA X .anil ρ = pure [] := Eq.trans rfl rfl
theorem z_ea_cons : evA X (.acons a es) ρ = (evE X a ρ >>= fun d => evA X es ρ >>= fun ds => pure (d :: ds)) := Eq.trans rfl rfl
theorem z_ew_nil : evV X .anil ρ = pure [] := Eq.trans rfl rfl
theorem z_ew_cons : evV X (.acons a es) ρ = (via ρ a (evE X a ρ) >>= fun d => evV X es ρ >>= fun ds => pure (d :: ds)) := Eq.trans rfl rfl
theorem z_ev_I {own : Bool} {k : It} : evI X own k m ρ = (evO X own m ρ >>= fun as => viewAll as >>= fun bs => walk k bs >>= fun ds => pure (as, bs, ds)) := Eq.trans rfl rfl
theorem z_eo_f : evO X false m ρ = evA X m ρ := Eq.trans rfl rfl
theorem z_eo_t : evO X true m ρ = evV X m ρ := Eq.trans rfl rfl
theorem z_callM_cons {x : M D} : callM (.acons a es) x = x := Eq.trans rfl rfl
theorem z_callM_nil {x : M D} : callM .anil x = M.calm x := Eq.trans rfl rfl
theorem z_calm_pure {α : Type} {x : α} : M.calm (pure x) = pure x := Eq.trans rfl rfl
theorem z_condM_nothing {x : M D} : condM .nothing x = pure true := Eq.trans rfl rfl
end
/-! ### the rest of the steps -/
section
variable {T : Tab} {k : Nat} {ρ : Env} {d e : D} {ds es : List D} {i j : Int} {a b c m : ME} {x : M D} {s : Sl} {n : Nat}
theorem z_clT_call : (clT T k).call = callF T k := Eq.trans rfl rfl
theorem z_clT_glo : (clT T k).glo = T.glo := Eq.trans rfl rfl
theorem z_getV_zero : getV (.val d :: ρ) 0 = pure d := Eq.trans rfl rfl
theorem z_getV_succ : getV (s :: ρ) (n + 1) = getV ρ n := Eq.trans rfl rfl
theorem z_via_zero : via (.val d :: ρ) (.var 0) x = pure d := Eq.trans rfl rfl
theorem z_via_own : via (.own ds :: ρ) (.var 0) x = pure (.lst ds) := Eq.trans rfl rfl
theorem z_via_succ : via (s :: ρ) (.var (n + 1)) x = via ρ (.var n) x := Eq.trans rfl rfl
theorem z_via_int : via ρ (.int i) x = x := Eq.trans rfl rfl
theorem z_via_bl {t : Bool} : via ρ (.bl t) x = x := Eq.trans rfl rfl
theorem z_via_non : via ρ .non x = x := Eq.trans rfl rfl
theorem z_via_str {t : Str} : via ρ (.str t) x = x := Eq.trans rfl rfl
theorem z_via_glo : via ρ (.glo n) x = x := Eq.trans rfl rfl
theorem z_via_tup : via ρ (.tup a) x = x := Eq.trans rfl rfl
theorem z_via_lst : via ρ (.lst a) x = x := Eq.trans rfl rfl
theorem z_via_bin {op : BOp} : via ρ (.bin op a b) x = x := Eq.trans rfl rfl
theorem z_via_neg : via ρ (.neg a) x = x := Eq.trans rfl rfl
theorem z_via_not : via ρ (.not a) x = x := Eq.trans rfl rfl
theorem z_via_and : via ρ (.and a b) x = x := Eq.trans rfl rfl
theorem z_via_or : via ρ (.or a b) x = x := Eq.trans rfl rfl
theorem z_via_cmp {op : COp} : via ρ (.cmp op a b) x = x := Eq.trans rfl rfl
theorem z_via_chain {op op' : COp} : via ρ (.chain op op' a b c) x = x := Eq.trans rfl rfl
theorem z_via_ite : via ρ (.ite a b c) x = x := Eq.trans rfl rfl
theorem z_via_ix : via ρ (.ix a b) x = x := Eq.trans rfl rfl
theorem z_via_sl : via ρ (.sl a b c) x = x := Eq.trans rfl rfl
theorem z_via_call : via ρ (.call n a) x = x := Eq.trans rfl rfl
theorem z_via_calli : via ρ (.calli n a) x = x := Eq.trans rfl rfl
theorem z_via_blt {f : Bf} : via ρ (.blt f a) x = x := Eq.trans rfl rfl
theorem z_via_isi {t : Ty} : via ρ (.isi a t) x = x := Eq.trans rfl rfl
theorem z_via_comp {q : It} {tg : Tg} {own : List Nat} : via ρ (.comp q a tg b c own) x = x := Eq.trans rfl rfl
theorem z_setV_zero : setV (s :: ρ) 0 d = .val d :: ρ := Eq.trans rfl rfl
theorem z_setV_succ : setV (s :: ρ) (n + 1) d = s :: setV ρ n d := Eq.trans rfl rfl
theorem z_set_zero {s' : Sl} : List.set (s :: ρ) 0 s' = s' :: ρ := Eq.trans rfl rfl
theorem z_set_succ {s' : Sl} : List.set (s :: ρ) (n + 1) s' = s :: List.set ρ n s' := Eq.trans rfl rfl
theorem z_getL_own : getL (.own ds :: ρ) 0 = pure ds := Eq.trans rfl rfl
theorem z_getL_succ : getL (s :: ρ) (n + 1) = getL ρ n := Eq.trans rfl rfl
theorem z_putL_own : putL (.own es :: ρ) 0 ds = pure (.own ds :: ρ) := Eq.trans rfl rfl
theorem z_putL_succ : putL (s :: ρ) (n + 1) ds = (putL ρ n ds >>= fun ρ' => pure (s :: ρ')) := by
  unfold putL
  rw [List.getElem?_cons_succ]
  cases ρ[n]? with
  | none => rfl
  | some q =>
    cases q with
    | none => rfl
    | own _ => rfl
    | val d =>
      cases d with
      | cell n' =>
        funext t
        show (match t[n']? with
          | some (.lst _) => (.ok (s :: ρ) (t.set n' (.lst ds)) : Res Env)
          | _ => .stuck) = M.bnd (fun t => match t[n']? with
          | some (.lst _) => (.ok ρ (t.set n' (.lst ds)) : Res Env)
          | _ => .stuck) (fun ρ' => pure (s :: ρ')) t
        unfold M.bnd
        dsimp only
        cases t[n']? with
        | none => rfl
        | some q => cases q <;> rfl
      | _ => rfl
theorem z_view_int : view (.int i) = pure (.int i) := Eq.trans rfl rfl
theorem z_view_bl {t : Bool} : view (.bl t) = pure (.bl t) := Eq.trans rfl rfl
theorem z_view_non : view .non = pure .non := Eq.trans rfl rfl
theorem z_view_str {t : Str} : view (.str t) = pure (.str t) := Eq.trans rfl rfl
theorem z_view_tup : view (.tup ds) = pure (.tup ds) := Eq.trans rfl rfl
theorem z_view_lst : view (.lst ds) = pure (.lst ds) := Eq.trans rfl rfl
theorem z_view_scr {ns : List Int} : view (.scr ns) = pure (.scr ns) := Eq.trans rfl rfl
theorem z_viewAll_nil : viewAll [] = pure [] := Eq.trans rfl rfl
theorem z_viewAll_cons : viewAll (d :: ds) = (view d >>= fun x => viewAll ds >>= fun xs => pure (x :: xs)) := Eq.trans rfl rfl
theorem z_truth_non : truth .non = pure false := Eq.trans rfl rfl
theorem z_truth_bl {t : Bool} : truth (.bl t) = pure t := Eq.trans rfl rfl
theorem z_truth_int : truth (.int i) = pure (i != 0) := Eq.trans rfl rfl
theorem z_truth_tup : truth (.tup ds) = pure (!ds.isEmpty) := Eq.trans rfl rfl
theorem z_truth_lst : truth (.lst ds) = pure (!ds.isEmpty) := Eq.trans rfl rfl
theorem z_truth_str {t : Str} : truth (.str t) = pure (sLen t != 0) := Eq.trans rfl rfl
theorem z_add : bop .add (.int i) (.int j) = pure (.int (i + j)) := Eq.trans rfl rfl
theorem z_sub : bop .sub (.int i) (.int j) = pure (.int (i - j)) := Eq.trans rfl rfl
theorem z_mul : bop .mul (.int i) (.int j) = if mulOk i j then pure (.int (i * j)) else M.stuck := Eq.trans rfl rfl
theorem z_fdiv : bop .fdiv (.int i) (.int j) = if divOk j then pure (.int (i.fdiv j)) else M.stuck := Eq.trans rfl rfl
theorem z_mod : bop .mod (.int i) (.int j) = if j ≠ 0 then pure (.int (i.fmod j)) else M.stuck := Eq.trans rfl rfl
theorem z_addl : bop .add (.lst ds) (.lst es) = if ds.length + es.length ≤ lim then pure (.lst (ds ++ es)) else M.stuck := Eq.trans rfl rfl
theorem z_addt : bop .add (.tup ds) (.tup es) = if ds.length + es.length ≤ lim then pure (.tup (ds ++ es)) else M.stuck := Eq.trans rfl rfl
theorem z_cop_eq : cop .eq d e = eqD d e := Eq.trans rfl rfl
theorem z_cop_ne : cop .ne d e = neD d e := Eq.trans rfl rfl
theorem z_cop_lt : cop .lt (.int i) (.int j) = pure (.bl (decide (i < j))) := Eq.trans rfl rfl
theorem z_cop_le : cop .le (.int i) (.int j) = pure (.bl (decide (i ≤ j))) := Eq.trans rfl rfl
theorem z_cop_gt : cop .gt (.int i) (.int j) = pure (.bl (decide (j < i))) := Eq.trans rfl rfl
theorem z_cop_ge : cop .ge (.int i) (.int j) = pure (.bl (decide (j ≤ i))) := Eq.trans rfl rfl
theorem z_cop_in : cop .isin d e = (isIn d e >>= fun t => pure (.bl t)) := Eq.trans rfl rfl
theorem z_cop_notIn : cop .notIn d e = (isIn d e >>= fun t => pure (.bl (!t))) := Eq.trans rfl rfl
theorem z_cop_is : cop .is d e = (isIt d e >>= fun t => pure (.bl t)) := Eq.trans rfl rfl
theorem z_cop_isNot : cop .isNot d e = (isIt d e >>= fun t => pure (.bl (!t))) := Eq.trans rfl rfl
theorem z_eqI : eqD (.int i) (.int j) = pure (.bl (i == j)) := Eq.trans rfl rfl
theorem z_neI : neD (.int i) (.int j) = pure (.bl (!(i == j))) := Eq.trans rfl rfl
theorem z_index_lst : index (.lst ds) (.int i) = atI ds i := Eq.trans rfl rfl
theorem z_index_tup : index (.tup ds) (.int i) = atI ds i := Eq.trans rfl rfl
theorem z_at0 : atI (d :: ds) 0 = pure d := by
  unfold atI ixN
  have h : (0 : Int) < ((d :: ds).length : Nat) := by rw [List.length_cons]; omega
  rw [if_pos (Int.le_refl 0), if_pos h]
  rfl
theorem z_at1 {d' : D} : atI (d :: d' :: ds) 1 = pure d' := by
  unfold atI ixN
  have h : (1 : Int) < ((d :: d' :: ds).length : Nat) := by rw [List.length_cons, List.length_cons]; omega
  rw [if_pos (by decide), if_pos h]
  rfl
theorem z_len_lst : bfn .len [.lst ds] = pure (.int ds.length) := Eq.trans rfl rfl
theorem z_len_tup : bfn .len [.tup ds] = pure (.int ds.length) := Eq.trans rfl rfl
theorem z_len_scr {ns : List Int} : bfn .len [.scr ns] = pure (.int ns.length) := Eq.trans rfl rfl
theorem z_abs : bfn .abs [.int i] = pure (.int (if i < 0 then -i else i)) := Eq.trans rfl rfl
theorem z_int : bfn .int [.int i] = pure (.int i) := Eq.trans rfl rfl
theorem z_intb {t : Bool} : bfn .int [.bl t] = pure (.int (if t then 1 else 0)) := Eq.trans rfl rfl
theorem z_tuple_lst : bfn .tuple [.lst ds] = pure (.tup ds) := Eq.trans rfl rfl
theorem z_tuple_tup : bfn .tuple [.tup ds] = pure (.tup ds) := Eq.trans rfl rfl
theorem z_list_lst : bfn .list [.lst ds] = pure (.lst ds) := Eq.trans rfl rfl
theorem z_list_tup : bfn .list [.tup ds] = pure (.lst ds) := Eq.trans rfl rfl
theorem z_isTy_ii : isTy .int (.int i) = pure true := Eq.trans rfl rfl
theorem z_isTy_bi : isTy .bool (.int i) = pure false := Eq.trans rfl rfl
theorem z_isTy_tt : isTy .tuple (.tup ds) = pure true := Eq.trans rfl rfl
theorem z_walk_seq {d : D} : walk .seq [d] = items d := Eq.trans rfl rfl
theorem z_items_lst : items (.lst ds) = pure ds := Eq.trans rfl rfl
theorem z_items_tup : items (.tup ds) = pure ds := Eq.trans rfl rfl
theorem z_walk_r1 : walk .range1 [.int j] = rangeM 0 j := Eq.trans rfl rfl
theorem z_walk_r2 : walk .range2 [.int i, .int j] = rangeM i j := Eq.trans rfl rfl
theorem z_walk_enum : walk .enum [.lst ds] = pure (enumD ds) := Eq.trans rfl rfl
theorem z_zip_ll : walk .zip [.lst ds, .lst es] = pure (zipD ds es) := Eq.trans rfl rfl
theorem z_zip_lt : walk .zip [.lst ds, .tup es] = pure (zipD ds es) := Eq.trans rfl rfl
theorem z_zip_tl : walk .zip [.tup ds, .lst es] = pure (zipD ds es) := Eq.trans rfl rfl
theorem z_zip_tt : walk .zip [.tup ds, .tup es] = pure (zipD ds es) := Eq.trans rfl rfl
theorem z_bindT_one : bindT (.one n) d ρ = pure (setV ρ n d) := Eq.trans rfl rfl
theorem z_wipe_nil : wipe ρ [] = ρ := Eq.trans rfl rfl
theorem z_wipe_cons {l : List Nat} : wipe ρ (n :: l) = (wipe ρ l).set n .none := Eq.trans rfl rfl
theorem z_setOwns_nil : setOwns [] [] ρ = some ρ := Eq.trans rfl rfl
theorem z_setOwns_cons {is : List (Bool × Nat)} : setOwns ((false, n) :: is) (d :: ds) ρ = setOwns is ds (setV ρ n d) := Eq.trans rfl rfl
theorem z_start : start n ds = ds.map Sl.val ++ List.replicate (n - ds.length) Sl.none := Eq.trans rfl rfl
theorem z_bindL_nil : bindL [] [] ρ = some ρ := Eq.trans rfl rfl
theorem z_bindL_cons {is : List Nat} : bindL (n :: is) (d :: ds) ρ = bindL is ds (setV ρ n d) := Eq.trans rfl rfl
theorem z_bindT_many {is : List Nat} : bindT (.many is) (.tup ds) ρ = (match bindL is ds ρ with | some ρ' => pure ρ' | none => M.stuck) := Eq.trans rfl rfl
theorem z_endM_nothing : endM .nothing x = pure none := Eq.trans rfl rfl
end
/-! ### reading names: by what stands there -/
theorem getV_val {ρ : Env} {i : Nat} {d : D} (h : ρ[i]? = some (.val d)) : getV ρ i = pure d := by unfold getV; rw [h]
theorem via_val {ρ : Env} {i : Nat} {d : D} {m : M D} (h : ρ[i]? = some (.val d)) : via ρ (.var i) m = pure d := by unfold via; dsimp only; rw [h]
theorem via_own {ρ : Env} {i : Nat} {ds : List D} {m : M D} (h : ρ[i]? = some (.own ds)) : via ρ (.var i) m = pure (.lst ds) := by unfold via; dsimp only; rw [h]
theorem pure_inj {α : Type} {a b : α} (h : (pure a : M α) = pure b) : a = b := by
  have := congrFun h []
  cases this
  rfl
/-! ### loops -/
theorem forL_nil {tg : Tg} {body : Env → M Out} {ρ : Env} : forL (pure ()) tg body [] ρ = pure (.nx ρ) := rfl
theorem forL_cons {tg : Tg} {body : Env → M Out} {d : D} {ds : List D} {ρ : Env} : forL (pure ()) tg body (d :: ds) ρ = (bindT tg d ρ >>= fun ρ' => body ρ' >>= fun o => match o with
    | .nx ρ2 => forL (pure ()) tg body ds ρ2
    | .ct ρ2 => forL (pure ()) tg body ds ρ2
    | o => pure o) := rfl
/-- a for loop that goes through: P holds of the number of turns and the slots -/
theorem forL_inv {tg : Tg} {body : Env → M Out} (P : Nat → Env → Prop) : ∀ (ds : List D) (n : Nat) (ρ : Env), P n ρ → (∀ (i : Nat) (d : D) (ρ : Env), ds[i]? = some d → P (n + i) ρ → ∃ ρ1 ρ2, bindT tg d ρ = pure ρ1 ∧ (body ρ1 = pure (.nx ρ2) ∨ body ρ1 = pure (.ct ρ2)) ∧ P (n + i + 1) ρ2) →
    ∃ ρ', P (n + ds.length) ρ' ∧ forL (pure ()) tg body ds ρ = pure (.nx ρ')
  | [], n, ρ, h0, _ => ⟨ρ, h0, rfl⟩
  | d :: ds, n, ρ, h0, hs => by
    obtain ⟨ρ1, ρ2, e1, e2, h1⟩ := hs 0 d ρ rfl h0
    obtain ⟨ρ', h2, e3⟩ := forL_inv P ds (n + 1) ρ2 h1 fun i d' ρ hd hp => by
      have := hs (i + 1) d' ρ (by simpa using hd) (by rw [Nat.add_assoc, Nat.add_comm 1] at hp; exact hp)
      rw [show n + 1 + i + 1 = n + (i + 1) + 1 by omega]
      exact this
    refine ⟨ρ', by rw [List.length_cons, show n + (ds.length + 1) = n + 1 + ds.length by omega]; exact h2, ?_⟩
    rw [forL_cons, e1]
    rcases e2 with e2 | e2 <;> (simp only [pure_bind, e2]; exact e3)
theorem forL_map {α : Type} (g : α → D) {tg : Tg} {body : Env → M Out} (P : Nat → Env → Prop) (zs : List α) (ρ : Env) (h0 : P 0 ρ) (hs : ∀ (i : Nat) (z : α) (ρ : Env), zs[i]? = some z → P i ρ → ∃ ρ1 ρ2, bindT tg (g z) ρ = pure ρ1 ∧ (body ρ1 = pure (.nx ρ2) ∨ body ρ1 = pure (.ct ρ2)) ∧ P (i + 1) ρ2) :
    ∃ ρ', P zs.length ρ' ∧ forL (pure ()) tg body (zs.map g) ρ = pure (.nx ρ') := by
  obtain ⟨ρ', h1, h2⟩ := forL_inv (tg := tg) (body := body) P (zs.map g) 0 ρ h0 fun i d ρ hd hp => by
    rw [List.getElem?_map] at hd
    cases hz : zs[i]? with
    | none => rw [hz] at hd; cases hd
    | some z =>
      rw [hz] at hd
      cases hd
      have := hs i z ρ hz (by rw [Nat.zero_add] at hp; exact hp)
      rw [Nat.zero_add]
      exact this
  exact ⟨ρ', by rw [List.length_map, Nat.zero_add] at h1; exact h1, h2⟩
/-- a for statement over what stands -/
theorem for_map {X : Cl} {F : Nat} {q : It} {es : ME} {tg : Tg} {a : MS} {ρ : Env} {α : Type} (g : α → D) (P : Nat → Env → Prop) (zs : List α) {as bs : List D} (e1 : evA X es ρ = pure as) (e2 : viewAll as = pure bs) (e3 : walk q bs = pure (zs.map g)) (e4 : still as bs = pure ()) (h0 : P 0 ρ)
    (hs : ∀ (i : Nat) (z : α) (ρ : Env), zs[i]? = some z → P i ρ → ∃ ρ1 ρ2, bindT tg (g z) ρ = pure ρ1 ∧ (ex X F a ρ1 = pure (.nx ρ2) ∨ ex X F a ρ1 = pure (.ct ρ2)) ∧ P (i + 1) ρ2) :
    ∃ ρ', P zs.length ρ' ∧ ex X F (.for_ q es tg a) ρ = pure (.nx ρ') := by
  obtain ⟨ρ', h1, h2⟩ := forL_map g (tg := tg) (body := ex X F a) P zs ρ h0 hs
  refine ⟨ρ', h1, ?_⟩
  rw [y_ex_for, z_ev_I, z_eo_f, e1]
  simp only [pure_bind, e2, e3]
  rw [z_lftA_pure]
  dsimp only
  rw [e4]
  exact h2
/-- a while loop -/
theorem whlL_inv {c : Env → M Bool} {body : Env → M Out} (P : Nat → Env → Prop) (hs : ∀ n ρ, P n ρ → c ρ = pure false ∨ (c ρ = pure true ∧ ∃ m ρ2, m < n ∧ (body ρ = pure (.nx ρ2) ∨ body ρ = pure (.ct ρ2)) ∧ P m ρ2)) :
    ∀ (n F : Nat) (ρ : Env), n < F → P n ρ → ∃ m ρ', P m ρ' ∧ c ρ' = pure false ∧ whlL c body F ρ = pure (.nx ρ')
  | n, 0, ρ, h, _ => absurd h (Nat.not_lt_zero _)
  | n, F + 1, ρ, h, hp => by
    have e0 : whlL c body (F + 1) ρ = lftA ρ (c ρ) fun b => if b then (body ρ >>= fun o => match o with
      | .nx ρ2 => whlL c body F ρ2
      | .ct ρ2 => whlL c body F ρ2
      | o => pure o) else pure (.nx ρ) := rfl
    rcases hs n ρ hp with e | ⟨e, m, ρ2, hm, e2, h2⟩
    · exact ⟨n, ρ, hp, e, by rw [e0, e]; rfl⟩
    · obtain ⟨m', ρ', h3, e3, e4⟩ := whlL_inv P hs m F ρ2 (by omega) h2
      refine ⟨m', ρ', h3, e3, ?_⟩
      rw [e0, e, z_lftA_pure]
      rcases e2 with e2 | e2 <;> (simp only [if_true, e2, pure_bind]; exact e4)
/-- a while statement -/
theorem whl_inv {X : Cl} {F : Nat} {c : ME} {a : MS} {ρ : Env} (P : Nat → Env → Prop) (n : Nat) (hn : n < F) (h0 : P n ρ)
    (hs : ∀ n ρ, P n ρ → (via ρ c (evE X c ρ) >>= fun x => view x >>= fun x => truth x) = pure false ∨ ((via ρ c (evE X c ρ) >>= fun x => view x >>= fun x => truth x) = pure true ∧ ∃ m ρ2, m < n ∧ (ex X F a ρ = pure (.nx ρ2) ∨ ex X F a ρ = pure (.ct ρ2)) ∧ P m ρ2)) :
    ∃ m ρ', P m ρ' ∧ (via ρ' c (evE X c ρ') >>= fun x => view x >>= fun x => truth x) = pure false ∧ ex X F (.whl c a) ρ = pure (.nx ρ') := whlL_inv P hs n F ρ hn h0
/-- a comprehension -/
theorem turns_map {tg : Tg} {fc : Env → M Bool} {fe : Env → M D} {ρ : Env} (p : D → Bool) (g : D → D) : ∀ ds : List D, (∀ d ∈ ds, ∃ ρ1, bindT tg d ρ = pure ρ1 ∧ fc ρ1 = pure (p d) ∧ (p d = true → fe ρ1 = pure (g d))) →
    turns (pure ()) tg fc fe ρ ds = pure ((ds.filter p).map g)
  | [], _ => rfl
  | d :: ds, h => by
    have ih := turns_map p g ds fun e m => h e (List.mem_cons_of_mem _ m)
    obtain ⟨ρ1, e1, e2, e3⟩ := h d List.mem_cons_self
    have e0 : turns (pure ()) tg fc fe ρ (d :: ds) = (bindT tg d ρ >>= fun ρ' => fc ρ' >>= fun b => if b = true then (fe ρ' >>= fun y => turns (pure ()) tg fc fe ρ ds >>= fun ys => pure (y :: ys)) else turns (pure ()) tg fc fe ρ ds) := rfl
    rw [e0, e1, pure_bind, e2, pure_bind, ih]
    cases hp : p d with
    | false => rw [if_neg Bool.false_ne_true, List.filter_cons_of_neg (by rw [hp]; exact Bool.false_ne_true)]
    | true => rw [if_pos rfl, e3 hp, pure_bind, pure_bind, List.filter_cons_of_pos hp, List.map_cons]
theorem turns_all {tg : Tg} {fe : Env → M D} {ρ : Env} {x : Env → M D} (g : D → D) (ds : List D) (h : ∀ d ∈ ds, ∃ ρ1, bindT tg d ρ = pure ρ1 ∧ fe ρ1 = pure (g d)) :
    turns (pure ()) tg (fun ρ' => M.calm (condM .nothing (x ρ'))) fe ρ ds = pure (ds.map g) := by
  have := turns_map (tg := tg) (fc := fun ρ' => M.calm (condM .nothing (x ρ'))) (fe := fe) (ρ := ρ) (fun _ => true) g ds fun d m => by
    obtain ⟨ρ1, e1, e2⟩ := h d m
    exact ⟨ρ1, e1, rfl, fun _ => e2⟩
  rw [this, List.filter_eq_self.mpr fun _ _ => rfl]
theorem cond_is {X : Cl} {c : ME} {ρ : Env} (h : c ≠ .nothing) : condM c (via ρ c (evE X c ρ)) = (via ρ c (evE X c ρ) >>= fun x => view x >>= fun x => truth x) := by
  cases c <;> first | rfl | exact absurd rfl h
theorem turns_zs {α : Type} {tg : Tg} {fc : Env → M Bool} {fe : Env → M D} {ρ : Env} (g r : α → D) (p : α → Bool) : ∀ zs : List α, (∀ z ∈ zs, ∃ ρ1, bindT tg (g z) ρ = pure ρ1 ∧ fc ρ1 = pure (p z) ∧ (p z = true → fe ρ1 = pure (r z))) →
    turns (pure ()) tg fc fe ρ (zs.map g) = pure ((zs.filter p).map r)
  | [], _ => rfl
  | z :: zs, h => by
    have ih := turns_zs g r p zs fun e m => h e (List.mem_cons_of_mem _ m)
    obtain ⟨ρ1, e1, e2, e3⟩ := h z List.mem_cons_self
    have e0 : turns (pure ()) tg fc fe ρ (g z :: zs.map g) = (bindT tg (g z) ρ >>= fun ρ' => fc ρ' >>= fun b => if b = true then (fe ρ' >>= fun y => turns (pure ()) tg fc fe ρ (zs.map g) >>= fun ys => pure (y :: ys)) else turns (pure ()) tg fc fe ρ (zs.map g)) := rfl
    rw [List.map_cons, e0, e1, pure_bind, e2, pure_bind, ih]
    cases hp : p z with
    | false => rw [if_neg Bool.false_ne_true, List.filter_cons_of_neg (by rw [hp]; exact Bool.false_ne_true)]
    | true => rw [if_pos rfl, e3 hp, pure_bind, pure_bind, List.filter_cons_of_pos hp, List.map_cons]
/-- a list comprehension without a test -/
theorem comp_map {α : Type} {X : Cl} {q : It} {es el : ME} {tg : Tg} {own : List Nat} {ρ : Env} {as bs : List D} (g r : α → D) (zs : List α) (e1 : evV X es ρ = pure as) (e2 : viewAll as = pure bs) (e3 : walk q bs = pure (zs.map g)) (e4 : still as bs = pure ())
    (hs : ∀ z ∈ zs, ∃ ρ1, bindT tg (g z) (wipe ρ own) = pure ρ1 ∧ evE X el ρ1 = pure (r z)) : evE X (.comp q es tg .nothing el own) ρ = pure (.lst (zs.map r)) := by
  rw [y_ev_comp, e1]
  simp only [pure_bind, e2, e3, e4]
  rw [turns_zs g r (fun _ => true) zs fun z m => by
    obtain ⟨ρ1, h1, h2⟩ := hs z m
    exact ⟨ρ1, h1, rfl, fun _ => by rw [h2]; rfl⟩]
  rw [List.filter_eq_self.mpr fun _ _ => rfl]
  rfl
/-- .. with one -/
theorem comp_filter {α : Type} {X : Cl} {q : It} {es el c : ME} {tg : Tg} {own : List Nat} {ρ : Env} {as bs : List D} (g r : α → D) (p : α → Bool) (zs : List α) (hc : c ≠ .nothing) (e1 : evV X es ρ = pure as) (e2 : viewAll as = pure bs) (e3 : walk q bs = pure (zs.map g)) (e4 : still as bs = pure ())
    (hs : ∀ z ∈ zs, ∃ ρ1, bindT tg (g z) (wipe ρ own) = pure ρ1 ∧ (via ρ1 c (evE X c ρ1) >>= fun x => view x >>= fun x => truth x) = pure (p z) ∧ (p z = true → evE X el ρ1 = pure (r z))) : evE X (.comp q es tg c el own) ρ = pure (.lst ((zs.filter p).map r)) := by
  rw [y_ev_comp, e1]
  simp only [pure_bind, e2, e3, e4]
  rw [turns_zs g r p zs fun z m => by
    obtain ⟨ρ1, h1, h2, h3⟩ := hs z m
    exact ⟨ρ1, h1, by rw [cond_is hc, h2]; rfl, fun hp => by rw [h3 hp]; rfl⟩]
  rfl
end EV

/-! EvAmt: fractions. (`trivial` steps the evaluator.) -/
namespace EV
open PySem
local macro_rules | `(tactic| trivial) => `(tactic| simp only [pure_bind, bind_assoc, if_true, List.map_cons, List.map_nil, List.length_cons, List.length_nil, List.cons_append, List.nil_append, List.replicate_succ, List.replicate_zero, Nat.reduceAdd, Nat.reduceSub, Nat.reduceLeDiff, Int.reduceNe, List.isEmpty_nil, Bool.not_true, Bool.not_false, Bool.false_eq_true, if_false, z_run_ret, z_run_nx, z_run_thr, z_lft_pure, z_lft_raise, z_lftA_pure, z_lftA_raise, z_thenO_nx, z_thenO_ct, z_thenO_ret, z_thenO_thr, z_ex_skip, z_ex_seq, z_ex_cont, z_ex_pub, z_ex_set, z_ex_setOwn, z_ex_unpack, z_ex_par, z_ex_append, z_ex_extend, z_ex_setix, z_ex_expr, z_ex_ife, z_ex_ret, z_ex_retN, z_ex_raise, z_ex_aug, z_ev_var, z_ev_int, z_ev_bl, z_ev_non, z_ev_str, z_ev_glo, z_ev_tup, z_ev_lst, z_ev_bin, z_ev_neg, z_ev_not, z_ev_and, z_ev_or, z_ev_cmp, z_ev_chain, z_ev_ite, z_ev_ix, z_ev_sl, z_ev_call, z_ev_blt, z_ev_isi, z_ea_nil, z_ea_cons, z_ew_nil, z_ew_cons, z_ev_I, z_eo_f, z_eo_t, z_callM_cons, z_callM_nil, z_calm_pure, z_condM_nothing, z_clT_call, z_clT_glo, z_getV_zero, z_getV_succ, z_via_zero, z_via_own, z_via_succ, z_via_int, z_via_bl, z_via_non, z_via_str, z_via_glo, z_via_tup, z_via_lst, z_via_bin, z_via_neg, z_via_not, z_via_and, z_via_or, z_via_cmp, z_via_chain, z_via_ite, z_via_ix, z_via_sl, z_via_call, z_via_calli, z_via_blt, z_via_isi, z_via_comp, z_setV_zero, z_setV_succ, z_set_zero, z_set_succ, z_getL_own, z_getL_succ, z_putL_own, z_putL_succ, z_view_int, z_view_bl, z_view_non, z_view_str, z_view_tup, z_view_lst, z_view_scr, z_viewAll_nil, z_viewAll_cons, z_truth_non, z_truth_bl, z_truth_int, z_truth_tup, z_truth_lst, z_truth_str, z_add, z_sub, z_mul, z_fdiv, z_mod, z_addl, z_addt, z_cop_eq, z_cop_ne, z_cop_lt, z_cop_le, z_cop_gt, z_cop_ge, z_cop_in, z_cop_notIn, z_cop_is, z_cop_isNot, z_eqI, z_neI, z_index_lst, z_index_tup, z_at0, z_at1, z_len_lst, z_len_tup, z_len_scr, z_abs, z_int, z_intb, z_tuple_lst, z_tuple_tup, z_list_lst, z_list_tup, z_isTy_ii, z_isTy_bi, z_isTy_tt, z_walk_seq, z_items_lst, z_items_tup, z_walk_r1, z_walk_r2, z_walk_enum, z_zip_ll, z_zip_lt, z_zip_tl, z_zip_tt, z_bindT_one, z_wipe_nil, z_wipe_cons, z_setOwns_nil, z_setOwns_cons, z_start, z_bindL_nil, z_bindL_cons, z_bindT_many, z_endM_nothing])
/-- Euclid's loop: the numbers, how far it may go -/
theorem euclid_step {n : Nat} {a b : Nat} (hb : 0 < b) (h : b < 2 ^ (n + 1)) (hr : a % b ≠ 0) : b % (a % b) < 2 ^ n := by
  have h1 : a % b < b := Nat.mod_lt _ hb
  have h2 : b % (a % b) < a % b := Nat.mod_lt _ (Nat.pos_of_ne_zero hr)
  have h3 : b % (a % b) + a % b ≤ b := by
    have := Nat.div_add_mod b (a % b)
    have h4 : 1 ≤ b / (a % b) := (Nat.one_le_div_iff (Nat.pos_of_ne_zero hr)).mpr (Nat.le_of_lt h1)
    have h5 : a % b * 1 ≤ a % b * (b / (a % b)) := Nat.mul_le_mul_left _ h4
    omega
  rw [Nat.pow_succ] at h
  omega
theorem fmod_nat (a b : Nat) : Int.fmod (a : Int) (b : Int) = ((a % b : Nat) : Int) := by
  rw [Int.fmod_eq_emod_of_nonneg _ (by omega)]
  rfl
def stG : Nat → Nat → Nat → Nat
  | 0, _, _ => 0
  | f + 1, a, b => if b = 0 then 0 else 1 + stG f b (a % b)
/-- how many turns Euclid takes -/
def euc (a b : Nat) : Nat := if h : b = 0 then 0 else 1 + euc b (a % b)
termination_by b
decreasing_by exact Nat.mod_lt _ (Nat.pos_of_ne_zero h)
theorem euc_zero (a : Nat) : euc a 0 = 0 := by unfold euc; rw [dif_pos rfl]
theorem euc_pos {a b : Nat} (h : b ≠ 0) : euc a b = 1 + euc b (a % b) := by conv => lhs; unfold euc; rw [dif_neg h]
theorem euc_le : ∀ (n a b : Nat), b < 2 ^ n → euc a b ≤ 2 * n
  | 0, a, b, h => by
    have : b = 0 := by omega
    subst this
    rw [euc_zero]
    exact Nat.le_refl _
  | n + 1, a, b, h => by
    by_cases h0 : b = 0
    · subst h0; rw [euc_zero]; omega
    · rw [euc_pos h0]
      by_cases hr : a % b = 0
      · rw [hr, euc_zero]; omega
      · rw [euc_pos hr]
        have := euc_le n (a % b) (b % (a % b)) (euclid_step (Nat.pos_of_ne_zero h0) h hr)
        omega
theorem gcd_step (a b : Nat) : Nat.gcd b (a % b) = Nat.gcd a b := by rw [Nat.gcd_comm a b, Nat.gcd_rec b a, Nat.gcd_comm]
theorem abs_nat (i : Int) : (if i < 0 then -i else i) = (i.natAbs : Int) := by split <;> omega
theorem gcd_ok {T : Tab} (h : T.fn i_gcd = some f_gcd) {k : Nat} {a b : Int} {n : Nat} (hb : b.natAbs < 2 ^ n) (hF : 2 * n < T.F) : callF T (k + 1) i_gcd [.int a, .int b] = pure (.int (Int.gcd a b)) := by
  rw [callF_eq h rfl]
  unfold f_gcd B_gcd
  trivial
  rw [abs_nat, abs_nat]
  obtain ⟨m, ρ', ⟨a', b', e1, e2, _⟩, e3, e4⟩ := whl_inv (X := clT T k) (F := T.F) (c := .cmp .ne (.var 1) (.int 0)) (a := .seq (.par [(false, 0), (false, 1)] (.acons (.var 1) (.acons (.bin .mod (.var 0) (.var 1)) .anil))) .skip) (ρ := [.val (.int a.natAbs), .val (.int b.natAbs)])
    (fun m ρ => ∃ a' b' : Nat, ρ = [.val (.int a'), .val (.int b')] ∧ Nat.gcd a' b' = Int.gcd a b ∧ m = euc a' b') (euc a.natAbs b.natAbs) (Nat.lt_of_le_of_lt (euc_le n _ _ hb) hF) ⟨_, _, rfl, rfl, rfl⟩ (fun m ρ ⟨a', b', e1, e2, e3⟩ => by
      subst e1
      trivial
      by_cases h0 : b' = 0
      · left
        subst h0
        rfl
      · right
        refine ⟨?_, euc b' (a' % b'), [.val (.int b'), .val (.int (a' % b' : Nat))], ?_, .inl ?_, ⟨_, _, rfl, by rw [gcd_step]; exact e2, rfl⟩⟩
        · have : ((b' : Int) == 0) = false := by simp; omega
          rw [this]
          rfl
        · rw [e3, euc_pos h0]; omega
        · rw [if_pos (by omega : (b' : Int) ≠ 0)]
          trivial
          rw [fmod_nat])
  rw [e4]
  subst e1
  trivial
  have h0 : b' = 0 := by
    revert e3
    trivial
    intro e3
    have := pure_inj e3
    simp at this
    omega
  subst h0
  rw [Nat.gcd_zero_right] at e2
  rw [e2]
/-! ### fractions are rationals -/
/-- a rational as it is handed on -/
def fr (q : Rat) : D := .tup [.int q.num, .int (q.den : Int)]
def pr (a b : Int) : D := .tup [.int a, .int b]
theorem divOk_of {j : Int} {n : Nat} (h0 : j ≠ 0) (h : j.natAbs < 2 ^ n) (hn : n ≤ 8999) : divOk j = true := by
  unfold divOk
  rw [Bool.and_eq_true]
  refine ⟨decide_eq_true h0, decide_eq_true ?_⟩
  have h1 : j.natAbs ≠ 0 := by omega
  have := (Nat.log2_lt h1).mpr (Nat.lt_of_lt_of_le h (Nat.pow_le_pow_right (by decide) (show n ≤ n from Nat.le_refl n)))
  omega
theorem mulOk_of {i j : Int} {a b : Nat} (hi : i.natAbs < 2 ^ a) (hj : j.natAbs < 2 ^ b) (h : a + b ≤ 134216999) : mulOk i j = true := by
  unfold mulOk
  refine decide_eq_true ?_
  have h1 : i.natAbs.log2 ≤ a := by
    by_cases z : i.natAbs = 0
    · rw [z]; exact Nat.zero_le _
    · exact Nat.le_of_lt ((Nat.log2_lt z).mpr hi)
  have h2 : j.natAbs.log2 ≤ b := by
    by_cases z : j.natAbs = 0
    · rw [z]; exact Nat.zero_le _
    · exact Nat.le_of_lt ((Nat.log2_lt z).mpr hj)
  omega
theorem fdiv_exact {a g : Int} (h : g ∣ a) : Int.fdiv a g = a / g := Int.fdiv_eq_ediv_of_dvd h
theorem frac_pos {t b : Int} (hb : 0 < b) : fr (Rat.divInt t b) = pr (t / (Int.gcd t b : Int)) (b / (Int.gcd t b : Int)) := by
  unfold fr pr
  have h1 : (Rat.divInt t b).num = t / (Int.gcd t b : Int) := by
    rw [Rat.num_divInt, Int.sign_eq_one_of_pos hb, Int.one_mul, Int.gcd_comm]
  have h2 : ((Rat.divInt t b).den : Int) = b / (Int.gcd t b : Int) := by
    rw [Rat.den_divInt, if_neg (by omega), Int.gcd_comm]
    rw [Int.natCast_ediv]
    congr 1
    omega
  rw [h1, h2]
theorem fdiv_neg_exact {a g : Int} (h0 : g ≠ 0) (h : g ∣ a) : Int.fdiv a (0 - g) = -a / g := by
  obtain ⟨c, rfl⟩ := h
  have e1 : g * c = (0 - g) * (-c) := by rw [Int.zero_sub, Int.neg_mul_neg]
  have e2 : -(g * c) = g * (-c) := by rw [Int.mul_neg]
  rw [e2, Int.mul_ediv_cancel_left _ h0, e1, Int.mul_fdiv_cancel_left _ (by omega)]
theorem frac_neg {t b : Int} (hb : b < 0) : fr (Rat.divInt t b) = pr (-t / (Int.gcd t b : Int)) (-b / (Int.gcd t b : Int)) := by
  unfold fr pr
  have h1 : (Rat.divInt t b).num = -t / (Int.gcd t b : Int) := by
    rw [Rat.num_divInt, Int.sign_eq_neg_one_of_neg hb, Int.gcd_comm]
    congr 1
    omega
  have h2 : ((Rat.divInt t b).den : Int) = -b / (Int.gcd t b : Int) := by
    rw [Rat.den_divInt, if_neg (by omega), Int.gcd_comm]
    rw [Int.natCast_ediv]
    congr 1
    omega
  rw [h1, h2]
theorem fraction_ok {T : Tab} (h : T.fn i_fraction = some f_fraction) (h0 : T.fn i_gcd = some f_gcd) {k : Nat} {t b : Int} {n : Nat} (hb0 : b ≠ 0) (hb : b.natAbs < 2 ^ n) (hn : n ≤ 8999) (hF : 20000 < T.F) :
    callF T (k + 2) i_fraction [.int t, .int b] = pure (fr (Rat.divInt t b)) := by
  have hg0 : (Int.gcd t b : Int) ≠ 0 := by
    have := @Int.gcd_eq_zero_iff t b
    omega
  have hgl : ((Int.gcd t b : Int)).natAbs < 2 ^ n := by
    refine Nat.lt_of_le_of_lt ?_ hb
    exact Nat.le_of_dvd (by omega) (Int.gcd_dvd_natAbs_right t b)
  have d1 : (Int.gcd t b : Int) ∣ t := Int.gcd_dvd_left t b
  have d2 : (Int.gcd t b : Int) ∣ b := Int.gcd_dvd_right t b
  rw [callF_eq h rfl]
  unfold f_fraction B_fraction
  trivial
  rw [gcd_ok h0 hb (by omega)]
  trivial
  by_cases hneg : b < 0
  · rw [decide_eq_true hneg]
    trivial
    rw [divOk_of (n := n) (by omega) (by omega) hn]
    trivial
    rw [frac_neg hneg, fdiv_neg_exact hg0 d1, fdiv_neg_exact hg0 d2]
    rfl
  · rw [decide_eq_false hneg]
    trivial
    rw [divOk_of hg0 hgl hn]
    trivial
    rw [frac_pos (by omega), fdiv_exact d1, fdiv_exact d2]
    rfl
/-- how large a rational's parts are -/
def sm (n : Nat) (a b : Int) : Prop := a.natAbs < 2 ^ n ∧ b.natAbs < 2 ^ n
theorem mul_lt {a b : Int} {n m : Nat} (ha : a.natAbs < 2 ^ n) (hb : b.natAbs < 2 ^ m) : (a * b).natAbs < 2 ^ (n + m) := by
  rw [Int.natAbs_mul, Nat.pow_add]
  exact Nat.mul_lt_mul'' ha hb
theorem add_lt {a b : Int} {n m : Nat} (ha : a.natAbs < 2 ^ n) (hb : b.natAbs < 2 ^ n) (h : n + 1 ≤ m) : (a + b).natAbs < 2 ^ m := by
  have h1 : (2 : Nat) ^ (n + 1) ≤ 2 ^ m := Nat.pow_le_pow_right (by decide) h
  rw [Nat.pow_succ] at h1
  have := Int.natAbs_add_le a b
  omega
structure HAmt (T : Tab) : Prop where
  gcd : T.fn i_gcd = some f_gcd
  fraction : T.fn i_fraction = some f_fraction
  plus : T.fn i_plus = some f_plus
  times : T.fn i_times = some f_times
  F : 20000 < T.F
theorem times_ok {T : Tab} (h : HAmt T) {k : Nat} {a b c d : Int} {n m : Nat} (h1 : sm n a b) (h2 : sm m c d) (hb : b ≠ 0) (hd : d ≠ 0) (hn : n + m ≤ 8999) :
    callF T (k + 3) i_times [pr a b, pr c d] = pure (fr (Rat.divInt a b * Rat.divInt c d)) := by
  rw [callF_eq h.times rfl]
  unfold f_times B_times pr
  trivial
  rw [mulOk_of h1.1 h2.1 (by omega), mulOk_of h1.2 h2.2 (by omega)]
  trivial
  rw [fraction_ok h.fraction h.gcd (Int.mul_ne_zero hb hd) (mul_lt h1.2 h2.2) hn h.F, Rat.divInt_mul_divInt]
  trivial
theorem plus_ok {T : Tab} (h : HAmt T) {k : Nat} {a b c d : Int} {n m : Nat} (h1 : sm n a b) (h2 : sm m c d) (hb : b ≠ 0) (hd : d ≠ 0) (hn : n + m ≤ 8999) :
    callF T (k + 3) i_plus [pr a b, pr c d] = pure (fr (Rat.divInt a b + Rat.divInt c d)) := by
  rw [callF_eq h.plus rfl]
  unfold f_plus B_plus pr
  trivial
  rw [mulOk_of h1.1 h2.2 (by omega), mulOk_of h2.1 h1.2 (by omega), mulOk_of h1.2 h2.2 (by omega)]
  trivial
  rw [fraction_ok h.fraction h.gcd (Int.mul_ne_zero hb hd) (mul_lt h1.2 h2.2) hn h.F, Rat.divInt_add_divInt _ _ hb hd]
  trivial
theorem fr_pr (q : Rat) : fr q = pr q.num q.den := rfl
theorem den_ne (q : Rat) : (q.den : Int) ≠ 0 := by
  have := q.den_nz
  omega
theorem qself (q : Rat) : Rat.divInt q.num (q.den : Int) = q := Rat.num_divInt_den q
def smq (n : Nat) (q : Rat) : Prop := sm n q.num q.den
theorem smq_divInt {a b : Int} {n : Nat} (hb : b ≠ 0) (h : sm n a b) : smq n (Rat.divInt a b) := by
  have hg : (Int.gcd b a) ≠ 0 := by
    have := @Int.gcd_eq_zero_iff b a
    omega
  constructor
  · rw [Rat.num_divInt]
    refine Nat.lt_of_le_of_lt ?_ h.1
    have e1 : (b.sign * a).natAbs ≤ a.natAbs := by
      rw [Int.natAbs_mul]
      have : b.sign.natAbs ≤ 1 := by
        rcases Int.sign_trichotomy b with z | z | z <;> rw [z] <;> decide
      calc b.sign.natAbs * a.natAbs ≤ 1 * a.natAbs := Nat.mul_le_mul_right _ this
        _ = a.natAbs := Nat.one_mul _
    refine Nat.le_trans ?_ e1
    exact Int.natAbs_ediv_le_natAbs _ _
  · rw [Rat.den_divInt, if_neg hb]
    refine Nat.lt_of_le_of_lt ?_ h.2
    rw [Int.natAbs_natCast]
    exact Nat.div_le_self _ _
theorem smq_add {p q : Rat} {n m : Nat} (hp : smq n p) (hq : smq m q) : smq (n + m + 1) (p + q) := by
  rw [← qself p, ← qself q, Rat.divInt_add_divInt _ _ (den_ne p) (den_ne q)]
  refine smq_divInt (Int.mul_ne_zero (den_ne p) (den_ne q)) ⟨?_, ?_⟩
  · exact add_lt (n := n + m) (mul_lt hp.1 hq.2) (by rw [Nat.add_comm]; exact mul_lt hq.1 hp.2) (Nat.le_refl _)
  · exact Nat.lt_of_lt_of_le (mul_lt hp.2 hq.2) (Nat.pow_le_pow_right (by decide) (by omega))
theorem smq_mul {p q : Rat} {n m : Nat} (hp : smq n p) (hq : smq m q) : smq (n + m) (p * q) := by
  rw [← qself p, ← qself q, Rat.divInt_mul_divInt]
  exact smq_divInt (Int.mul_ne_zero (den_ne p) (den_ne q)) ⟨mul_lt hp.1 hq.1, mul_lt hp.2 hq.2⟩
theorem smq_mono {q : Rat} {n m : Nat} (h : smq n q) (hn : n ≤ m) : smq m q := ⟨Nat.lt_of_lt_of_le h.1 (Nat.pow_le_pow_right (by decide) hn), Nat.lt_of_lt_of_le h.2 (Nat.pow_le_pow_right (by decide) hn)⟩
theorem smq_zero : smq 1 0 := ⟨by decide, by decide⟩
abbrev PI2 := Int × Int
def pd (p : PI2) : D := pr p.1 p.2
def qv (p : PI2) : Rat := Rat.divInt p.1 p.2
def okP (n : Nat) (p : PI2) : Prop := sm n p.1 p.2 ∧ p.2 ≠ 0
/-- the sum of products -/
def dotZ (zs : List (PI2 × PI2)) : Rat := zs.foldl (fun s z => s + qv z.1 * qv z.2) 0
theorem dotZ_snoc (zs : List (PI2 × PI2)) (z : PI2 × PI2) : dotZ (zs ++ [z]) = dotZ zs + qv z.1 * qv z.2 := by
  unfold dotZ
  rw [List.foldl_append]
  rfl
theorem smq_qv {p : PI2} {n : Nat} (h : okP n p) : smq n (qv p) := smq_divInt h.2 h.1
theorem smq_fold {n m : Nat} : ∀ (zs : List (PI2 × PI2)) (s : Rat) (c : Nat), smq c s → (∀ z ∈ zs, okP n z.1 ∧ okP m z.2) → smq (zs.length * (n + m + 1) + c) (zs.foldl (fun s z => s + qv z.1 * qv z.2) s)
  | [], s, c, h, _ => by simpa using h
  | z :: zs, s, c, h, hz => by
    have h2 := hz z List.mem_cons_self
    have := smq_fold zs (s + qv z.1 * qv z.2) (c + (n + m) + 1) (smq_add h (smq_mul (smq_qv h2.1) (smq_qv h2.2))) fun y m => hz y (List.mem_cons_of_mem _ m)
    rw [List.foldl_cons]
    refine smq_mono this ?_
    rw [List.length_cons, Nat.add_mul]
    omega
theorem smq_dot {n m : Nat} (zs : List (PI2 × PI2)) (h : ∀ z ∈ zs, okP n z.1 ∧ okP m z.2) : smq (zs.length * (n + m + 1) + 1) (dotZ zs) := smq_fold zs 0 1 smq_zero h
theorem zip_pd (ps qs : List PI2) : zipD (ps.map pd) (qs.map pd) = (ps.zip qs).map fun z => .tup [pd z.1, pd z.2] := by
  unfold zipD
  rw [List.zipWith_map, List.zip, List.map_zipWith]
theorem qv_zero {p : PI2} (h : p.1 = 0) : qv p = 0 := by
  unfold qv
  rw [h]
  exact Rat.zero_divInt _
structure HInner (T : Tab) : Prop extends HAmt T where
  inner : T.fn i_inner = some f_inner
theorem inner_ok {T : Tab} (h : HInner T) {k : Nat} {x y : D} {ps qs : List PI2} {n m : Nat} (e1 : view x = pure x) (e2 : view y = pure y) (e3 : walk .zip [x, y] = pure (zipD (ps.map pd) (qs.map pd))) (e4 : still [x, y] [x, y] = pure ())
    (hz : ∀ z ∈ ps.zip qs, okP n z.1 ∧ okP m z.2) (hn : ((ps.zip qs).length + 1) * (n + m + 1) + 1 ≤ 8999) :
    callF T (k + 4) i_inner [x, y] = pure (fr (dotZ (ps.zip qs))) := by
  rw [callF_eq h.inner rfl]
  unfold f_inner B_inner
  trivial
  rw [zip_pd] at e3
  obtain ⟨ρ', ⟨s3, s4, e5⟩, e6⟩ := for_map (X := clT T (k + 3)) (F := T.F) (q := .zip) (es := .acons (.var 0) (.acons (.var 1) .anil)) (tg := .many [3, 4]) (a := .seq (.ife (.and (.cmp .ne (.ix (.var 3) (.int 0)) (.int 0)) (.cmp .ne (.ix (.var 4) (.int 0)) (.int 0))) (.seq (.set 2 (.call 4 (.acons (.var 2) (.acons (.call 5 (.acons (.var 3) (.acons (.var 4) .anil))) .anil)))) .skip) .skip) .skip)
    (ρ := [.val x, .val y, .val (.tup [.int 0, .int 1]), .none, .none]) (fun z : PI2 × PI2 => .tup [pd z.1, pd z.2]) (fun i ρ => ∃ s3 s4, ρ = [.val x, .val y, .val (fr (dotZ ((ps.zip qs).take i))), s3, s4]) (ps.zip qs) (as := [x, y]) (bs := [x, y])
    (by trivial) (by trivial; rw [e1, e2]; trivial) e3 e4 ⟨.none, .none, rfl⟩ (by
      rintro i z ρ hi ⟨s3, s4, rfl⟩
      have hm : z ∈ ps.zip qs := List.mem_of_getElem? hi
      have hl := (List.getElem?_eq_some_iff.mp hi).1
      have ht : (ps.zip qs).take (i + 1) = (ps.zip qs).take i ++ [z] := by
        rw [List.take_add_one, hi]; rfl
      refine ⟨[.val x, .val y, .val (fr (dotZ ((ps.zip qs).take i))), .val (pd z.1), .val (pd z.2)], [.val x, .val y, .val (fr (dotZ ((ps.zip qs).take (i + 1)))), .val (pd z.1), .val (pd z.2)], rfl, .inl ?_, ⟨_, _, rfl⟩⟩
      rw [ht, dotZ_snoc]
      unfold pd pr
      trivial
      have h2 := hz z hm
      have hs : smq (((ps.zip qs).take i).length * (n + m + 1) + 1) (dotZ ((ps.zip qs).take i)) := smq_dot _ fun y hy => hz y (List.mem_of_mem_take hy)
      have hle : ((ps.zip qs).take i).length * (n + m + 1) ≤ (ps.zip qs).length * (n + m + 1) := Nat.mul_le_mul_right _ (by rw [List.length_take]; omega)
      rw [Nat.add_mul] at hn
      by_cases z1 : z.1.1 = 0
      · have e1' : (z.1.1 == 0) = true := by simpa using z1
        rw [e1']
        trivial
        rw [qv_zero z1, Rat.zero_mul, Rat.add_zero]
      · have e1' : (z.1.1 == 0) = false := by simpa using z1
        rw [e1']
        trivial
        by_cases z2 : z.2.1 = 0
        · have e2' : (z.2.1 == 0) = true := by simpa using z2
          rw [e2']
          trivial
          rw [qv_zero z2, Rat.mul_zero, Rat.add_zero]
        · have e2' : (z.2.1 == 0) = false := by simpa using z2
          rw [e2']
          trivial
          have t1 := times_ok h.toHAmt (k := k) h2.1.1 h2.2.1 h2.1.2 h2.2.2 (by omega)
          unfold pr at t1
          rw [t1]
          trivial
          have t2 := plus_ok h.toHAmt (k := k) (smq_mono hs (Nat.le_refl _)) (smq_mul (smq_qv h2.1) (smq_qv h2.2)) (den_ne _) (den_ne _) (by omega)
          rw [← fr_pr, ← fr_pr, qself, qself] at t2
          unfold qv at t2 ⊢
          rw [t2]
          trivial)
  rw [e6, e5, List.take_length]
  trivial
/-- an integer as a fraction -/
theorem whole_ok {T : Tab} (h : T.fn i_whole = some f_whole) {k : Nat} {i : Int} : callF T (k + 1) i_whole [.int i] = pure (pd (i, 1)) := by
  rw [callF_eq h rfl]
  unfold f_whole B_whole
  trivial
  rfl
end EV

/-! EvCol: answers, colors; the law's own of them. -/
namespace EV
open PySem
local macro_rules | `(tactic| trivial) => `(tactic| simp only [pure_bind, bind_assoc, if_true, List.map_cons, List.map_nil, List.length_cons, List.length_nil, List.cons_append, List.nil_append, List.replicate_succ, List.replicate_zero, Nat.reduceAdd, Nat.reduceSub, Nat.reduceLeDiff, Int.reduceNe, List.isEmpty_nil, Bool.not_true, Bool.not_false, Bool.false_eq_true, if_false, z_run_ret, z_run_nx, z_run_thr, z_lft_pure, z_lft_raise, z_lftA_pure, z_lftA_raise, z_thenO_nx, z_thenO_ct, z_thenO_ret, z_thenO_thr, z_ex_skip, z_ex_seq, z_ex_cont, z_ex_pub, z_ex_set, z_ex_setOwn, z_ex_unpack, z_ex_par, z_ex_append, z_ex_extend, z_ex_setix, z_ex_expr, z_ex_ife, z_ex_ret, z_ex_retN, z_ex_raise, z_ex_aug, z_ev_var, z_ev_int, z_ev_bl, z_ev_non, z_ev_str, z_ev_glo, z_ev_tup, z_ev_lst, z_ev_bin, z_ev_neg, z_ev_not, z_ev_and, z_ev_or, z_ev_cmp, z_ev_chain, z_ev_ite, z_ev_ix, z_ev_sl, z_ev_call, z_ev_blt, z_ev_isi, z_ea_nil, z_ea_cons, z_ew_nil, z_ew_cons, z_ev_I, z_eo_f, z_eo_t, z_callM_cons, z_callM_nil, z_calm_pure, z_condM_nothing, z_clT_call, z_clT_glo, z_getV_zero, z_getV_succ, z_via_zero, z_via_own, z_via_succ, z_via_int, z_via_bl, z_via_non, z_via_str, z_via_glo, z_via_tup, z_via_lst, z_via_bin, z_via_neg, z_via_not, z_via_and, z_via_or, z_via_cmp, z_via_chain, z_via_ite, z_via_ix, z_via_sl, z_via_call, z_via_calli, z_via_blt, z_via_isi, z_via_comp, z_setV_zero, z_setV_succ, z_set_zero, z_set_succ, z_getL_own, z_getL_succ, z_putL_own, z_putL_succ, z_view_int, z_view_bl, z_view_non, z_view_str, z_view_tup, z_view_lst, z_view_scr, z_viewAll_nil, z_viewAll_cons, z_truth_non, z_truth_bl, z_truth_int, z_truth_tup, z_truth_lst, z_truth_str, z_add, z_sub, z_mul, z_fdiv, z_mod, z_addl, z_addt, z_cop_eq, z_cop_ne, z_cop_lt, z_cop_le, z_cop_gt, z_cop_ge, z_cop_in, z_cop_notIn, z_cop_is, z_cop_isNot, z_eqI, z_neI, z_index_lst, z_index_tup, z_at0, z_at1, z_len_lst, z_len_tup, z_len_scr, z_abs, z_int, z_intb, z_tuple_lst, z_tuple_tup, z_list_lst, z_list_tup, z_isTy_ii, z_isTy_bi, z_isTy_tt, z_walk_seq, z_items_lst, z_items_tup, z_walk_r1, z_walk_r2, z_walk_enum, z_zip_ll, z_zip_lt, z_zip_tl, z_zip_tt, z_bindT_one, z_wipe_nil, z_wipe_cons, z_setOwns_nil, z_setOwns_cons, z_start, z_bindL_nil, z_bindL_cons, z_bindT_many, z_endM_nothing])
def lp (z : PI2 × PI2) : PI2 := (z.1.1 * z.2.1, z.1.2 * z.2.2)
structure HCol (T : Tab) : Prop extends HInner T where
  whole : T.fn i_whole = some f_whole
  lit : T.fn i_lit = some f_lit
  answer : T.fn i_answer_of = some f_answer_of
  color : T.fn i_color_of = some f_color_of
theorem lit_ok {T : Tab} (h : T.fn i_lit = some f_lit) {k : Nat} {x y : D} {ps qs : List PI2} {n m : Nat} (e1 : view x = pure x) (e2 : view y = pure y) (e3 : walk .zip [x, y] = pure (zipD (ps.map pd) (qs.map pd))) (e4 : still [x, y] [x, y] = pure ())
    (hz : ∀ z ∈ ps.zip qs, okP n z.1 ∧ okP m z.2) (hn : n + m ≤ 8999) : callF T (k + 1) i_lit [x, y] = pure (.lst (((ps.zip qs).map lp).map pd)) := by
  rw [callF_eq h rfl]
  unfold f_lit B_lit
  trivial
  rw [zip_pd] at e3
  rw [comp_map (fun z : PI2 × PI2 => .tup [pd z.1, pd z.2]) (fun z => pd (lp z)) (ps.zip qs) (as := [x, y]) (bs := [x, y]) ?_ ?_ e3 e4 ?_]
  · trivial
    rw [List.map_map]
    rfl
  · trivial
  · trivial
    rw [e1, e2]
    trivial
  · intro z hm
    obtain ⟨h1, h2⟩ := hz z hm
    refine ⟨[.val x, .val y, .val (pd z.1), .val (pd z.2)], rfl, ?_⟩
    unfold pd pr lp
    trivial
    rw [mulOk_of h1.1.1 h2.1.1 (by omega), mulOk_of h1.1.2 h2.1.2 (by omega)]
    trivial
theorem okP_lp {z : PI2 × PI2} {n m : Nat} (h1 : okP n z.1) (h2 : okP m z.2) : okP (n + m) (lp z) := ⟨⟨mul_lt h1.1.1 h2.1.1, mul_lt h1.1.2 h2.1.2⟩, Int.mul_ne_zero h1.2 h2.2⟩
theorem qv_lp (z : PI2 × PI2) : qv (lp z) = qv z.1 * qv z.2 := by
  unfold qv lp
  rw [Rat.divInt_mul_divInt]
/-- weights, a light, a surface: the answer -/
def ans : Rat → List Int → List PI2 → List PI2 → Rat
  | s, w :: ws, l :: ls, q :: qs => ans (s + qv (w, 1) * (qv l * qv q)) ws ls qs
  | s, _, _, _ => s
theorem ans_dot : ∀ (ws : List Int) (ls qs : List PI2) (s : Rat), ((ws.map fun w => ((w, 1) : PI2)).zip ((ls.zip qs).map lp)).foldl (fun s z => s + qv z.1 * qv z.2) s = ans s ws ls qs
  | [], ls, qs, s => by unfold ans; rfl
  | w :: ws, [], qs, s => rfl
  | w :: ws, l :: ls, [], s => rfl
  | w :: ws, l :: ls, q :: qs, s => by
    show List.foldl _ (s + qv (w, 1) * qv (lp (l, q))) _ = ans (s + qv (w, 1) * (qv l * qv q)) ws ls qs
    rw [qv_lp]
    exact ans_dot ws ls qs _
theorem ans_dot2 : ∀ (ws : List Int) (ls qs : List PI2) (s : Rat), (((ws.zip ls).map fun z => ((qv (z.1, 1) * qv z.2).num, ((qv (z.1, 1) * qv z.2).den : Int))).zip qs).foldl (fun s z => s + qv z.1 * qv z.2) s = ans s ws ls qs
  | [], ls, qs, s => by unfold ans; rfl
  | w :: ws, [], qs, s => rfl
  | w :: ws, l :: ls, [], s => rfl
  | w :: ws, l :: ls, q :: qs, s => by
    show List.foldl _ (s + qv ((qv (w, 1) * qv l).num, ((qv (w, 1) * qv l).den : Int)) * qv q) _ = ans (s + qv (w, 1) * (qv l * qv q)) ws ls qs
    have e : qv ((qv (w, 1) * qv l).num, ((qv (w, 1) * qv l).den : Int)) = qv (w, 1) * qv l := qself _
    rw [e, Rat.mul_assoc]
    exact ans_dot2 ws ls qs _
/-- how many bits stand in weights, lights, surfaces -/
structure Sized (n : Nat) (ws : List Int) (ls qs : List PI2) : Prop where
  w : ∀ w ∈ ws, w.natAbs < 2 ^ n
  l : ∀ l ∈ ls, okP n l
  q : ∀ q ∈ qs, okP n q
  len : ws.length ≤ 5
  n1 : 1 ≤ n
  n2 : n ≤ 300
theorem answer_ok {T : Tab} (h : HCol T) {k : Nat} {ws : List Int} {ls qs : List PI2} {n : Nat} (z : Sized n ws ls qs) : callF T (k + 5) i_answer_of [.tup (ws.map .int), .tup (ls.map pd), .tup (qs.map pd)] = pure (fr (ans 0 ws ls qs)) := by
  rw [callF_eq h.answer rfl]
  unfold f_answer_of B_answer_of
  trivial
  rw [comp_map D.int (fun w => pd (w, 1)) ws (as := [.tup (ws.map .int)]) (bs := [.tup (ws.map .int)]) ?_ ?_ ?_ ?_ ?_]
  · trivial
    have hl := lit_ok (T := T) h.lit (k := k + 3) (x := .tup (ls.map pd)) (y := .tup (qs.map pd)) (ps := ls) (qs := qs) (n := n) (m := n) rfl rfl rfl rfl (fun y hy => ⟨z.l _ (List.of_mem_zip hy).1, z.q _ (List.of_mem_zip hy).2⟩) (by have := z.n2; omega)
    rw [hl]
    trivial
    have hi := inner_ok (T := T) h.toHInner (k := k) (x := .lst (ws.map fun w => pd (w, 1))) (y := .lst (((ls.zip qs).map lp).map pd)) (ps := ws.map fun w => ((w, 1) : PI2)) (qs := (ls.zip qs).map lp) (n := n) (m := n + n) rfl rfl (by rw [z_zip_ll, List.map_map (f := fun w : Int => ((w, 1) : PI2))]; rfl) rfl (fun y hy => by
      obtain ⟨h1, h2⟩ := List.of_mem_zip hy
      obtain ⟨w, hw, e1⟩ := List.mem_map.mp h1
      obtain ⟨u, hu, e2⟩ := List.mem_map.mp h2
      rw [← e1, ← e2]
      refine ⟨⟨⟨z.w w hw, ?_⟩, (by decide : (1 : Int) ≠ 0)⟩, okP_lp (z.l _ (List.of_mem_zip hu).1) (z.q _ (List.of_mem_zip hu).2)⟩
      exact Nat.one_lt_two_pow (by have := z.n1; omega)) (by
        have h1 : ((ws.map fun w => ((w, 1) : PI2)).zip ((ls.zip qs).map lp)).length ≤ 5 := by
          rw [List.length_zip, List.length_map]
          have := z.len
          omega
        have h2 : (((ws.map fun w => ((w, 1) : PI2)).zip ((ls.zip qs).map lp)).length + 1) * (n + (n + n) + 1) ≤ 6 * (n + (n + n) + 1) := Nat.mul_le_mul_right _ (by omega)
        have := z.n2
        omega)
    rw [hi]
    unfold dotZ
    rw [ans_dot]
    trivial
  · trivial
  · trivial
  · trivial
  · rfl
  · intro w hw
    refine ⟨_, rfl, ?_⟩
    trivial
    exact whole_ok h.whole
theorem color_ok {T : Tab} (h : HCol T) {k : Nat} {eye : List (List Int)} {ls qs : List PI2} {n : Nat} (z : ∀ ws ∈ eye, Sized n ws ls qs) :
    callF T (k + 6) i_color_of [.tup (eye.map fun ws => .tup (ws.map .int)), .tup (ls.map pd), .tup (qs.map pd)] = pure (.tup (eye.map fun ws => fr (ans 0 ws ls qs))) := by
  rw [callF_eq h.color rfl]
  unfold f_color_of B_color_of
  trivial
  rw [comp_map (fun ws : List Int => D.tup (ws.map .int)) (fun ws => fr (ans 0 ws ls qs)) eye (as := [.tup (eye.map fun ws => .tup (ws.map .int))]) (bs := [.tup (eye.map fun ws => .tup (ws.map .int))]) ?_ ?_ ?_ ?_ ?_]
  · trivial
  · trivial
  · trivial
  · trivial
  · rfl
  · intro ws hw
    refine ⟨_, rfl, ?_⟩
    trivial
    exact answer_ok h (z ws hw)
/-! ### the law's own -/
structure HLaw (T : Tab) : Prop where
  part : T.fn i_l_part = some f_l_part
  add : T.fn i_l_add = some f_l_add
  mul : T.fn i_l_mul = some f_l_mul
  dot : T.fn i_l_dot = some f_l_dot
  answer : T.fn i_l_answer = some f_l_answer
  color : T.fn i_l_color = some f_l_color
  F : 20000 < T.F
theorem l_part_ok {T : Tab} (h : T.fn i_l_part = some f_l_part) {k : Nat} {t b : Int} {n : Nat} (hb0 : 0 < b) (hb : b.natAbs < 2 ^ n) (hn : n ≤ 8999) (hF : 20000 < T.F) : callF T (k + 1) i_l_part [.int t, .int b] = pure (fr (Rat.divInt t b)) := by
  rw [callF_eq h rfl]
  unfold f_l_part B_l_part
  trivial
  rw [abs_nat]
  obtain ⟨b0, rfl⟩ := Int.eq_ofNat_of_zero_le (Int.le_of_lt hb0)
  have hg0 : (Int.gcd t b0 : Int) ≠ 0 := by
    have := @Int.gcd_eq_zero_iff t b0
    omega
  have hgl : ((Int.gcd t b0 : Int)).natAbs < 2 ^ n := by
    refine Nat.lt_of_le_of_lt ?_ hb
    exact Nat.le_of_dvd (by omega) (Int.gcd_dvd_natAbs_right t b0)
  have d1 : (Int.gcd t b0 : Int) ∣ t := Int.gcd_dvd_left t b0
  have d2 : (Int.gcd t b0 : Int) ∣ b0 := Int.gcd_dvd_right t b0
  have hb' : b0 < 2 ^ n := by omega
  obtain ⟨m, ρ', ⟨a', b', e1, e2, _⟩, e3, e4⟩ := whl_inv (X := clT T k) (F := T.F) (c := .cmp .gt (.var 3) (.int 0)) (a := .seq (.par [(false, 2), (false, 3)] (.acons (.var 3) (.acons (.bin .mod (.blt .int (.acons (.var 2) .anil)) (.var 3)) .anil))) .skip) (ρ := [.val (.int t), .val (.int b0), .val (.int t.natAbs), .val (.int b0)])
    (fun m ρ => ∃ a' b' : Nat, ρ = [.val (.int t), .val (.int b0), .val (.int a'), .val (.int b')] ∧ Nat.gcd a' b' = Int.gcd t b0 ∧ m = euc a' b') (euc t.natAbs b0) (Nat.lt_of_le_of_lt (euc_le n _ _ hb') (by omega)) ⟨_, _, rfl, rfl, rfl⟩ (fun m ρ ⟨a', b', e1, e2, e3⟩ => by
      subst e1
      trivial
      by_cases h0 : b' = 0
      · left
        subst h0
        rfl
      · right
        refine ⟨?_, euc b' (a' % b'), [.val (.int t), .val (.int b0), .val (.int b'), .val (.int (a' % b' : Nat))], ?_, .inl ?_, ⟨_, _, rfl, by rw [gcd_step]; exact e2, rfl⟩⟩
        · rw [decide_eq_true (show (0 : Int) < b' by omega)]
        · rw [e3, euc_pos h0]; omega
        · rw [if_pos (by omega : (b' : Int) ≠ 0)]
          trivial
          rw [fmod_nat])
  rw [e4]
  subst e1
  trivial
  have h0 : b' = 0 := by
    revert e3
    trivial
    intro e3
    have := pure_inj e3
    simp at this
    omega
  subst h0
  rw [Nat.gcd_zero_right] at e2
  rw [e2, divOk_of hg0 hgl hn]
  trivial
  rw [frac_pos hb0, fdiv_exact d1, fdiv_exact d2]
  rfl
theorem l_mul_ok {T : Tab} (h : HLaw T) {k : Nat} {a b c d : Int} {n m : Nat} (h1 : sm n a b) (h2 : sm m c d) (hb : 0 < b) (hd : 0 < d) (hn : n + m ≤ 8999) :
    callF T (k + 2) i_l_mul [pr a b, pr c d] = pure (fr (Rat.divInt a b * Rat.divInt c d)) := by
  rw [callF_eq h.mul rfl]
  unfold f_l_mul B_l_mul pr
  trivial
  rw [mulOk_of h1.1 h2.1 (by omega), mulOk_of h1.2 h2.2 (by omega)]
  trivial
  rw [l_part_ok h.part (Int.mul_pos hb hd) (mul_lt h1.2 h2.2) hn h.F, Rat.divInt_mul_divInt]
  trivial
theorem l_add_ok {T : Tab} (h : HLaw T) {k : Nat} {a b c d : Int} {n m : Nat} (h1 : sm n a b) (h2 : sm m c d) (hb : 0 < b) (hd : 0 < d) (hn : n + m ≤ 8999) :
    callF T (k + 2) i_l_add [pr a b, pr c d] = pure (fr (Rat.divInt a b + Rat.divInt c d)) := by
  rw [callF_eq h.add rfl]
  unfold f_l_add B_l_add pr
  trivial
  rw [mulOk_of h1.1 h2.2 (by omega), mulOk_of h2.1 h1.2 (by omega), mulOk_of h1.2 h2.2 (by omega)]
  trivial
  rw [l_part_ok h.part (Int.mul_pos hb hd) (mul_lt h1.2 h2.2) hn h.F, Rat.divInt_add_divInt _ _ (by omega) (by omega)]
  trivial
theorem den_pos (q : Rat) : 0 < (q.den : Int) := by
  have := q.den_nz
  omega
/-- pairs with bottoms above 0 -/
def okL (n : Nat) (p : PI2) : Prop := sm n p.1 p.2 ∧ 0 < p.2
theorem okL.okP {n : Nat} {p : PI2} (h : okL n p) : okP n p := ⟨h.1, by have := h.2; omega⟩
theorem l_dot_ok {T : Tab} (h : HLaw T) {k : Nat} {x y : D} {ps qs : List PI2} {n m : Nat} (e1 : view x = pure x) (e2 : view y = pure y) (e3 : walk .zip [x, y] = pure (zipD (ps.map pd) (qs.map pd))) (e4 : still [x, y] [x, y] = pure ())
    (hz : ∀ z ∈ ps.zip qs, okL n z.1 ∧ okL m z.2) (hn : ((ps.zip qs).length + 1) * (n + m + 1) + 1 ≤ 8999) :
    callF T (k + 3) i_l_dot [x, y] = pure (fr (dotZ (ps.zip qs))) := by
  rw [callF_eq h.dot rfl]
  unfold f_l_dot B_l_dot
  trivial
  rw [zip_pd] at e3
  obtain ⟨ρ', ⟨s3, s4, e5⟩, e6⟩ := for_map (X := clT T (k + 2)) (F := T.F) (q := .zip) (es := .acons (.var 0) (.acons (.var 1) .anil)) (tg := .many [3, 4]) (a := .seq (.set 2 (.call 47 (.acons (.var 2) (.acons (.call 48 (.acons (.var 3) (.acons (.var 4) .anil))) .anil)))) .skip)
    (ρ := [.val x, .val y, .val (.tup [.int 0, .int 1]), .none, .none]) (fun z : PI2 × PI2 => .tup [pd z.1, pd z.2]) (fun i ρ => ∃ s3 s4, ρ = [.val x, .val y, .val (fr (dotZ ((ps.zip qs).take i))), s3, s4]) (ps.zip qs) (as := [x, y]) (bs := [x, y])
    (by trivial) (by trivial; rw [e1, e2]; trivial) e3 e4 ⟨.none, .none, rfl⟩ (by
      rintro i z ρ hi ⟨s3, s4, rfl⟩
      have hm : z ∈ ps.zip qs := List.mem_of_getElem? hi
      have hl := (List.getElem?_eq_some_iff.mp hi).1
      have ht : (ps.zip qs).take (i + 1) = (ps.zip qs).take i ++ [z] := by
        rw [List.take_add_one, hi]; rfl
      refine ⟨[.val x, .val y, .val (fr (dotZ ((ps.zip qs).take i))), .val (pd z.1), .val (pd z.2)], [.val x, .val y, .val (fr (dotZ ((ps.zip qs).take (i + 1)))), .val (pd z.1), .val (pd z.2)], rfl, .inl ?_, ⟨_, _, rfl⟩⟩
      rw [ht, dotZ_snoc]
      have h2 := hz z hm
      have hs : smq (((ps.zip qs).take i).length * (n + m + 1) + 1) (dotZ ((ps.zip qs).take i)) := smq_dot _ fun y hy => by
        have := hz y (List.mem_of_mem_take hy)
        exact ⟨this.1.okP, this.2.okP⟩
      have hle : ((ps.zip qs).take i).length * (n + m + 1) ≤ (ps.zip qs).length * (n + m + 1) := Nat.mul_le_mul_right _ (by rw [List.length_take]; omega)
      rw [Nat.add_mul] at hn
      unfold pd
      trivial
      have t1 := l_mul_ok h (k := k) h2.1.1 h2.2.1 h2.1.2 h2.2.2 (by omega)
      rw [t1]
      trivial
      have t2 := l_add_ok h (k := k) (smq_mono hs (Nat.le_refl _)) (smq_mul (smq_qv h2.1.okP) (smq_qv h2.2.okP)) (den_pos _) (den_pos _) (by omega)
      rw [← fr_pr, ← fr_pr, qself, qself] at t2
      unfold qv at t2 ⊢
      rw [t2]
      trivial)
  rw [e6, e5, List.take_length]
  trivial
structure SizedL (n : Nat) (ws : List Int) (ls qs : List PI2) : Prop where
  w : ∀ w ∈ ws, w.natAbs < 2 ^ n
  l : ∀ l ∈ ls, okL n l
  q : ∀ q ∈ qs, okL n q
  len : ws.length ≤ 5
  n1 : 1 ≤ n
  n2 : n ≤ 300
theorem SizedL.sized {n : Nat} {ws : List Int} {ls qs : List PI2} (h : SizedL n ws ls qs) : Sized n ws ls qs := ⟨h.w, fun l m => (h.l l m).okP, fun q m => (h.q q m).okP, h.len, h.n1, h.n2⟩
theorem l_answer_ok {T : Tab} (h : HLaw T) {k : Nat} {ws : List Int} {ls qs : List PI2} {n : Nat} (z : SizedL n ws ls qs) : callF T (k + 4) i_l_answer [.tup (ws.map .int), .tup (ls.map pd), .tup (qs.map pd)] = pure (fr (ans 0 ws ls qs)) := by
  rw [callF_eq h.answer rfl]
  unfold f_l_answer B_l_answer
  trivial
  have hzip : zipD (ws.map D.int) (ls.map pd) = (ws.zip ls).map fun z => .tup [.int z.1, pd z.2] := by
    unfold zipD
    rw [List.zipWith_map, List.zip, List.map_zipWith]
  rw [comp_map (fun z : Int × PI2 => D.tup [.int z.1, pd z.2]) (fun z => fr (qv (z.1, 1) * qv z.2)) (ws.zip ls) (as := [.tup (ws.map .int), .tup (ls.map pd)]) (bs := [.tup (ws.map .int), .tup (ls.map pd)]) ?_ ?_ ?_ ?_ ?_]
  · trivial
    have hi := l_dot_ok (T := T) h (k := k) (x := .lst ((ws.zip ls).map fun z => fr (qv (z.1, 1) * qv z.2))) (y := .tup (qs.map pd)) (ps := (ws.zip ls).map fun z => ((qv (z.1, 1) * qv z.2).num, ((qv (z.1, 1) * qv z.2).den : Int))) (qs := qs) (n := n + n) (m := n) rfl rfl (by rw [z_zip_lt, List.map_map]; rfl) rfl (fun y hy => by
      obtain ⟨h1, h2⟩ := List.of_mem_zip hy
      obtain ⟨u, hu, e1⟩ := List.mem_map.mp h1
      rw [← e1]
      obtain ⟨g1, g2⟩ := List.of_mem_zip hu
      have k1 : okP n (u.1, 1) := ⟨⟨z.w _ g1, Nat.one_lt_two_pow (by have := z.n1; omega)⟩, (by decide : (1 : Int) ≠ 0)⟩
      exact ⟨⟨smq_mul (smq_qv k1) (smq_qv (z.l _ g2).okP), den_pos _⟩, z.q _ h2⟩) (by
        have h1 : (((ws.zip ls).map fun z => ((qv (z.1, 1) * qv z.2).num, ((qv (z.1, 1) * qv z.2).den : Int))).zip qs).length ≤ 5 := by
          rw [List.length_zip, List.length_map, List.length_zip]
          have := z.len
          omega
        have h2 : ((((ws.zip ls).map fun z => ((qv (z.1, 1) * qv z.2).num, ((qv (z.1, 1) * qv z.2).den : Int))).zip qs).length + 1) * (n + n + n + 1) ≤ 6 * (n + n + n + 1) := Nat.mul_le_mul_right _ (by omega)
        have := z.n2
        omega)
    rw [hi]
    unfold dotZ
    rw [ans_dot2]
    trivial
  · trivial
  · trivial
  · trivial
    rw [hzip]
  · rfl
  · intro u hu
    obtain ⟨g1, g2⟩ := List.of_mem_zip hu
    refine ⟨[.val (.tup (ws.map .int)), .val (.tup (ls.map pd)), .val (.tup (qs.map pd)), .val (.int u.1), .val (pd u.2)], rfl, ?_⟩
    trivial
    have := l_mul_ok h (k := k + 1) (a := u.1) (b := 1) (c := u.2.1) (d := u.2.2) (n := n) (m := n) ⟨z.w _ g1, Nat.one_lt_two_pow (by have := z.n1; omega)⟩ (z.l _ g2).1 (by decide) (z.l _ g2).2 (by have := z.n2; omega)
    exact this
theorem l_color_ok {T : Tab} (h : HLaw T) {k : Nat} {eye : List (List Int)} {ls qs : List PI2} {n : Nat} (z : ∀ ws ∈ eye, SizedL n ws ls qs) :
    callF T (k + 5) i_l_color [.tup (eye.map fun ws => .tup (ws.map .int)), .tup (ls.map pd), .tup (qs.map pd)] = pure (.tup (eye.map fun ws => fr (ans 0 ws ls qs))) := by
  rw [callF_eq h.color rfl]
  unfold f_l_color B_l_color
  trivial
  rw [comp_map (fun ws : List Int => D.tup (ws.map .int)) (fun ws => fr (ans 0 ws ls qs)) eye (as := [.tup (eye.map fun ws => .tup (ws.map .int))]) (bs := [.tup (eye.map fun ws => .tup (ws.map .int))]) ?_ ?_ ?_ ?_ ?_]
  · trivial
  · trivial
  · trivial
  · trivial
  · rfl
  · intro ws hw
    refine ⟨_, rfl, ?_⟩
    trivial
    exact l_answer_ok h (z ws hw)
end EV

/-! EvDraw: what the laws draw from a script. -/
namespace EV
open PySem
local macro_rules | `(tactic| trivial) => `(tactic| simp only [pure_bind, bind_assoc, if_true, List.map_cons, List.map_nil, List.length_cons, List.length_nil, List.cons_append, List.nil_append, List.replicate_succ, List.replicate_zero, Nat.reduceAdd, Nat.reduceSub, Nat.reduceLeDiff, Int.reduceNe, List.isEmpty_nil, Bool.not_true, Bool.not_false, Bool.false_eq_true, if_false, z_run_ret, z_run_nx, z_run_thr, z_lft_pure, z_lft_raise, z_lftA_pure, z_lftA_raise, z_thenO_nx, z_thenO_ct, z_thenO_ret, z_thenO_thr, z_ex_skip, z_ex_seq, z_ex_cont, z_ex_pub, z_ex_set, z_ex_setOwn, z_ex_unpack, z_ex_par, z_ex_append, z_ex_extend, z_ex_setix, z_ex_expr, z_ex_ife, z_ex_ret, z_ex_retN, z_ex_raise, z_ex_aug, z_ev_var, z_ev_int, z_ev_bl, z_ev_non, z_ev_str, z_ev_glo, z_ev_tup, z_ev_lst, z_ev_bin, z_ev_neg, z_ev_not, z_ev_and, z_ev_or, z_ev_cmp, z_ev_chain, z_ev_ite, z_ev_ix, z_ev_sl, z_ev_call, z_ev_blt, z_ev_isi, z_ea_nil, z_ea_cons, z_ew_nil, z_ew_cons, z_ev_I, z_eo_f, z_eo_t, z_callM_cons, z_callM_nil, z_calm_pure, z_condM_nothing, z_clT_call, z_clT_glo, z_getV_zero, z_getV_succ, z_via_zero, z_via_own, z_via_succ, z_via_int, z_via_bl, z_via_non, z_via_str, z_via_glo, z_via_tup, z_via_lst, z_via_bin, z_via_neg, z_via_not, z_via_and, z_via_or, z_via_cmp, z_via_chain, z_via_ite, z_via_ix, z_via_sl, z_via_call, z_via_calli, z_via_blt, z_via_isi, z_via_comp, z_setV_zero, z_setV_succ, z_set_zero, z_set_succ, z_getL_own, z_getL_succ, z_putL_own, z_putL_succ, z_view_int, z_view_bl, z_view_non, z_view_str, z_view_tup, z_view_lst, z_view_scr, z_viewAll_nil, z_viewAll_cons, z_truth_non, z_truth_bl, z_truth_int, z_truth_tup, z_truth_lst, z_truth_str, z_add, z_sub, z_mul, z_fdiv, z_mod, z_addl, z_addt, z_cop_eq, z_cop_ne, z_cop_lt, z_cop_le, z_cop_gt, z_cop_ge, z_cop_in, z_cop_notIn, z_cop_is, z_cop_isNot, z_eqI, z_neI, z_index_lst, z_index_tup, z_at0, z_at1, z_len_lst, z_len_tup, z_len_scr, z_abs, z_int, z_intb, z_tuple_lst, z_tuple_tup, z_list_lst, z_list_tup, z_isTy_ii, z_isTy_bi, z_isTy_tt, z_walk_seq, z_items_lst, z_items_tup, z_walk_r1, z_walk_r2, z_walk_enum, z_zip_ll, z_zip_lt, z_zip_tl, z_zip_tt, z_bindT_one, z_wipe_nil, z_wipe_cons, z_setOwns_nil, z_setOwns_cons, z_start, z_bindL_nil, z_bindL_cons, z_bindT_many, z_endM_nothing])
theorem ixN_nat {n i : Nat} (h : i < n) : ixN n (i : Int) = some i := by
  unfold ixN
  rw [if_pos (by omega), if_pos (by omega)]
  rfl
theorem atI_nat {ds : List D} {i : Nat} {d : D} (h : ds[i]? = some d) : atI ds (i : Int) = pure d := by
  have hl := (List.getElem?_eq_some_iff.mp h).1
  unfold atI
  rw [ixN_nat hl]
  dsimp only
  rw [h]
theorem atI_get {ds : List D} {j : Int} (h0 : 0 ≤ j) (h1 : j < (ds.length : Int)) : ∃ d ∈ ds, atI ds j = pure d := by
  obtain ⟨i, rfl⟩ := Int.eq_ofNat_of_zero_le h0
  have hl : i < ds.length := by omega
  exact ⟨ds[i], List.getElem_mem hl, atI_nat (List.getElem?_eq_getElem hl)⟩
theorem at_int {ds : List Int} {j : Int} (h0 : 0 ≤ j) (h1 : j < (ds.length : Int)) : ∃ d ∈ ds, atI (ds.map D.int) j = pure (.int d) := by
  obtain ⟨d, m, e⟩ := atI_get (ds := ds.map D.int) h0 (by rw [List.length_map]; exact h1)
  obtain ⟨x, hx, rfl⟩ := List.mem_map.mp m
  exact ⟨x, hx, e⟩
theorem fmod_b (a : Int) {b : Int} (hb : 0 < b) : 0 ≤ Int.fmod a b ∧ Int.fmod a b < b := by
  rw [Int.fmod_eq_emod_of_nonneg _ (by omega)]
  exact ⟨Int.emod_nonneg _ (by omega), Int.emod_lt_of_pos _ hb⟩
theorem lift_list {α β : Type} {f : α → β} {P : α → Prop} : ∀ {ys : List β}, (∀ y ∈ ys, ∃ x, P x ∧ y = f x) → ∃ xs : List α, ys = xs.map f ∧ ∀ x ∈ xs, P x
  | [], _ => ⟨[], rfl, fun _ m => (List.not_mem_nil m).elim⟩
  | y :: ys, h => by
    obtain ⟨x, h1, h2⟩ := h y List.mem_cons_self
    obtain ⟨xs, h3, h4⟩ := lift_list (ys := ys) fun z m => h z (List.mem_cons_of_mem _ m)
    refine ⟨x :: xs, by rw [List.map_cons, h2, ← h3], fun z m => ?_⟩
    rcases List.mem_cons.mp m with e | m
    · rw [e]; exact h1
    · exact h4 z m
theorem choose_list {α : Type} {β : Type} {R : α → β → Prop} : ∀ {zs : List α}, (∀ z ∈ zs, ∃ y, R z y) → ∃ r : List (α × β), r.map (·.1) = zs ∧ ∀ p ∈ r, R p.1 p.2
  | [], _ => ⟨[], rfl, fun _ m => (List.not_mem_nil m).elim⟩
  | z :: zs, h => by
    obtain ⟨y, h1⟩ := h z List.mem_cons_self
    obtain ⟨r, h2, h3⟩ := choose_list (zs := zs) fun z m => h z (List.mem_cons_of_mem _ m)
    refine ⟨(z, y) :: r, by rw [List.map_cons, h2], fun p m => ?_⟩
    rcases List.mem_cons.mp m with e | m
    · rw [e]; exact h1
    · exact h3 p m
/-- a comprehension whose items have a property -/
theorem comp_ex {α : Type} {X : Cl} {q : It} {es el : ME} {tg : Tg} {own : List Nat} {ρ : Env} {as bs : List D} (g : α → D) (Q : α → D → Prop) (zs : List α) (e1 : evV X es ρ = pure as) (e2 : viewAll as = pure bs) (e3 : walk q bs = pure (zs.map g)) (e4 : still as bs = pure ())
    (hs : ∀ z ∈ zs, ∃ ρ1 y, bindT tg (g z) (wipe ρ own) = pure ρ1 ∧ evE X el ρ1 = pure y ∧ Q z y) : ∃ r : List (α × D), r.map (·.1) = zs ∧ (∀ p ∈ r, Q p.1 p.2) ∧ evE X (.comp q es tg .nothing el own) ρ = pure (.lst (r.map (·.2))) := by
  obtain ⟨r, h1, h2⟩ := choose_list (R := fun z y => ∃ ρ1, bindT tg (g z) (wipe ρ own) = pure ρ1 ∧ evE X el ρ1 = pure y ∧ Q z y) (zs := zs) fun z m => by
    obtain ⟨ρ1, y, h⟩ := hs z m
    exact ⟨y, ρ1, h⟩
  refine ⟨r, h1, fun p m => by obtain ⟨_, _, _, h⟩ := h2 p m; exact h, ?_⟩
  refine comp_map (fun p : α × D => g p.1) (fun p => p.2) r e1 e2 (by rw [e3, ← h1, List.map_map]; rfl) e4 fun p m => ?_
  obtain ⟨ρ1, k1, k2, _⟩ := h2 p m
  exact ⟨ρ1, k1, k2⟩
theorem rangeM_ok {n : Nat} (h : n ≤ 1000000) : rangeM 0 (n : Int) = pure ((List.range n).map fun (i : Nat) => D.int (i : Int)) := by
  unfold rangeM
  rw [if_pos]
  · unfold rangeD
    have : ((n : Int) - 0).toNat = n := by omega
    rw [this]
    congr 2
    funext i
    rw [Int.zero_add]
  · have e : mx = 4611686018427387904 := by decide
    have e2 : lim = 16777216 := by decide
    rw [e, e2]
    omega
/-! ### numbers of a script -/
theorem l_cell_ok {T : Tab} (h : T.fn i_l_cell = some f_l_cell) {k j : Nat} {ns : List Int} : callF T (k + 1) i_l_cell [.scr ns, .int (j : Int)] = pure (.int (ns.getD j 0)) := by
  rw [callF_eq h rfl]
  unfold f_l_cell B_l_cell
  trivial
  by_cases hj : j < ns.length
  · rw [decide_eq_true (show (j : Int) < (ns.length : Int) by omega)]
    trivial
    have e : index (.scr ns) (.int (j : Int)) = pure (.int (ns.getD j 0)) := by
      show atI (ns.map D.int) (j : Int) = _
      refine atI_nat ?_
      rw [List.getElem?_map, List.getElem?_eq_getElem hj, List.getD_eq_getElem?_getD, List.getElem?_eq_getElem hj]
      rfl
    rw [e]
    trivial
  · rw [decide_eq_false (show ¬ ((j : Int) < (ns.length : Int)) by omega)]
    trivial
    rw [List.getD_eq_getElem?_getD, List.getElem?_eq_none (by omega)]
    rfl
theorem fdiv_le (z : Int) : (z.fdiv 1000).natAbs ≤ z.natAbs := by
  rw [Int.fdiv_eq_ediv_of_nonneg _ (by decide)]
  omega
structure HDraw (T : Tab) : Prop where
  cell : T.fn i_l_cell = some f_l_cell
  row : T.fn i_l_row = some f_l_row
def okD (d : Int) : Prop := 0 ≤ d ∧ d < 1000
theorem l_row_ok {T : Tab} (h : HDraw T) {k at_ : Nat} {ns : List Int} {B : Nat} (hB : ∀ z ∈ ns, z.natAbs < 2 ^ B) (hB2 : B ≤ 100000000) (hB3 : 31 ≤ B) :
    ∃ ds : List Int, ds.length = 60 ∧ (∀ d ∈ ds, okD d) ∧ callF T (k + 2) i_l_row [.scr ns, .int (at_ : Int)] = pure (.lst (ds.map .int)) := by
  have hget : ∀ j, (ns.getD j 0).natAbs < 2 ^ B := fun j => by
    rw [List.getD_eq_getElem?_getD]
    cases e : ns[j]? with
    | none => simpa using Nat.two_pow_pos B
    | some z => exact hB z (List.mem_of_getElem? e)
  have p31 : (2147483648 : Nat) ≤ 2 ^ B := Nat.le_trans (by decide : 2147483648 ≤ 2 ^ 31) (Nat.pow_le_pow_right (by decide) hB3)
  rw [callF_eq h.row rfl]
  unfold f_l_row B_l_row
  trivial
  rw [l_cell_ok h.cell]
  trivial
  obtain ⟨ρ', ⟨z, xs, s4, e1, e2, e3, e4⟩, e5⟩ := for_map (X := clT T (k + 1)) (F := T.F) (q := .range1) (es := .acons (.int 60) .anil) (tg := .one 4)
    (a := .seq (.ife (.cmp .lt (.call 44 (.acons (.var 0) (.acons (.var 1) .anil))) (.bin .pow (.int 10) (.int 18))) (.seq (.set 2 (.bin .mod (.bin .add (.bin .add (.bin .add (.bin .mul (.var 2) (.int 48271)) (.bin .mul (.int 131) (.var 4))) (.int 7)) (.call 44 (.acons (.var 0) (.acons (.bin .mod (.bin .add (.bin .add (.var 1) (.int 1)) (.var 4)) (.int 20)) .anil)))) (.int 2147483647))) (.seq (.append 3 (.bin .mod (.bin .fdiv (.var 2) (.int 11)) (.int 1000))) .skip)) (.seq (.append 3 (.bin .mod (.var 2) (.int 1000))) (.seq (.set 2 (.bin .fdiv (.var 2) (.int 1000))) .skip))) .skip)
    (ρ := [.val (.scr ns), .val (.int at_), .val (.int (ns.getD at_ 0)), .own [], .none]) (fun i : Nat => D.int (i : Int)) (fun i ρ => ∃ (z : Int) (xs : List Int) (s4 : Sl), z.natAbs < 2 ^ B ∧ xs.length = i ∧ (∀ d ∈ xs, okD d) ∧ ρ = [.val (.scr ns), .val (.int at_), .val (.int z), .own (xs.map .int), s4]) (List.range 60) (as := [.int 60]) (bs := [.int 60])
    (by trivial) (by trivial) (by trivial; exact rangeM_ok (n := 60) (by decide)) rfl ⟨_, [], .none, hget at_, rfl, fun _ m => (List.not_mem_nil m).elim, rfl⟩ (by
      rintro i z ρ hi ⟨y, xs, s4, h1, h2, h3, rfl⟩
      have hi60 : i < 60 := by
        have := (List.getElem?_eq_some_iff.mp hi).1
        rw [List.length_range] at this
        exact this
      have hz : z = i := by
        rw [List.getElem?_range hi60] at hi
        exact (Option.some.inj hi).symm
      subst hz
      have hlim : (xs.map D.int).length < lim := by
        rw [List.length_map, h2]
        exact Nat.lt_of_lt_of_le hi60 (by decide)
      have m1 : ∀ d : Int, okD d → ∀ d' ∈ xs ++ [d], okD d' := fun d hd d' m => by
        rcases List.mem_append.mp m with m | m
        · exact h3 d' m
        · have : d' = d := by simpa using m
          rw [this]; exact hd
      have l1 : ∀ d : Int, (xs ++ [d]).length = z + 1 := fun d => by rw [List.length_append, h2]; rfl
      have pw : bop .pow (.int 10) (.int 18) = pure (.int (10 ^ 18)) := rfl
      have eat : ((at_ : Int) + 1 + (z : Int)).fmod 20 = (((at_ + 1 + z) % 20 : Nat) : Int) := by rw [← fmod_nat]; rfl
      by_cases hc : ns.getD at_ 0 < 10 ^ 18
      · obtain ⟨y', hy'⟩ : ∃ y', y' = (y * 48271 + 131 * (z : Int) + 7 + ns.getD ((at_ + 1 + z) % 20) 0).fmod 2147483647 := ⟨_, rfl⟩
        have b1 := fmod_b (y * 48271 + 131 * (z : Int) + 7 + ns.getD ((at_ + 1 + z) % 20) 0) (b := 2147483647) (by decide)
        rw [← hy'] at b1
        refine ⟨[.val (.scr ns), .val (.int at_), .val (.int y), .own (xs.map .int), .val (.int z)], [.val (.scr ns), .val (.int at_), .val (.int y'), .own ((xs ++ [(y'.fdiv 11).fmod 1000]).map .int), .val (.int z)], rfl, .inl ?_, ⟨y', _, _, by omega, l1 _, m1 _ (fmod_b _ (by decide)), rfl⟩⟩
        trivial
        rw [l_cell_ok h.cell]
        trivial
        rw [pw]
        trivial
        rw [decide_eq_true hc]
        trivial
        rw [mulOk_of (a := B) (b := 16) h1 (by decide) (by omega), mulOk_of (a := 8) (b := 8) (by decide) (by omega) (by decide)]
        trivial
        rw [eat, l_cell_ok h.cell]
        trivial
        rw [← hy']
        rw [show divOk 11 = true from by decide]
        trivial
        rw [if_pos hlim]
        trivial
        rw [List.map_append]
        rfl
      · refine ⟨[.val (.scr ns), .val (.int at_), .val (.int y), .own (xs.map .int), .val (.int z)], [.val (.scr ns), .val (.int at_), .val (.int (y.fdiv 1000)), .own ((xs ++ [y.fmod 1000]).map .int), .val (.int z)], rfl, .inl ?_, ⟨_, _, _, Nat.lt_of_le_of_lt (fdiv_le y) h1, l1 _, m1 _ (fmod_b _ (by decide)), rfl⟩⟩
        trivial
        rw [l_cell_ok h.cell]
        trivial
        rw [pw]
        trivial
        rw [decide_eq_false hc]
        trivial
        rw [if_pos hlim]
        trivial
        rw [show divOk 1000 = true from by decide]
        trivial
        rw [List.map_append]
        rfl)
  rw [e5, e4]
  trivial
  rw [List.length_range] at e2
  exact ⟨xs, e2, e3, rfl⟩
end EV

/-! EvDraw2: drawn eyes, lights, surfaces. -/
namespace EV
open PySem
local macro_rules | `(tactic| trivial) => `(tactic| simp only [pure_bind, bind_assoc, if_true, List.map_cons, List.map_nil, List.length_cons, List.length_nil, List.cons_append, List.nil_append, List.replicate_succ, List.replicate_zero, Nat.reduceAdd, Nat.reduceSub, Nat.reduceLeDiff, Int.reduceNe, List.isEmpty_nil, Bool.not_true, Bool.not_false, Bool.false_eq_true, if_false, z_run_ret, z_run_nx, z_run_thr, z_lft_pure, z_lft_raise, z_lftA_pure, z_lftA_raise, z_thenO_nx, z_thenO_ct, z_thenO_ret, z_thenO_thr, z_ex_skip, z_ex_seq, z_ex_cont, z_ex_pub, z_ex_set, z_ex_setOwn, z_ex_unpack, z_ex_par, z_ex_append, z_ex_extend, z_ex_setix, z_ex_expr, z_ex_ife, z_ex_ret, z_ex_retN, z_ex_raise, z_ex_aug, z_ev_var, z_ev_int, z_ev_bl, z_ev_non, z_ev_str, z_ev_glo, z_ev_tup, z_ev_lst, z_ev_bin, z_ev_neg, z_ev_not, z_ev_and, z_ev_or, z_ev_cmp, z_ev_chain, z_ev_ite, z_ev_ix, z_ev_sl, z_ev_call, z_ev_blt, z_ev_isi, z_ea_nil, z_ea_cons, z_ew_nil, z_ew_cons, z_ev_I, z_eo_f, z_eo_t, z_callM_cons, z_callM_nil, z_calm_pure, z_condM_nothing, z_clT_call, z_clT_glo, z_getV_zero, z_getV_succ, z_via_zero, z_via_own, z_via_succ, z_via_int, z_via_bl, z_via_non, z_via_str, z_via_glo, z_via_tup, z_via_lst, z_via_bin, z_via_neg, z_via_not, z_via_and, z_via_or, z_via_cmp, z_via_chain, z_via_ite, z_via_ix, z_via_sl, z_via_call, z_via_calli, z_via_blt, z_via_isi, z_via_comp, z_setV_zero, z_setV_succ, z_set_zero, z_set_succ, z_getL_own, z_getL_succ, z_putL_own, z_putL_succ, z_view_int, z_view_bl, z_view_non, z_view_str, z_view_tup, z_view_lst, z_view_scr, z_viewAll_nil, z_viewAll_cons, z_truth_non, z_truth_bl, z_truth_int, z_truth_tup, z_truth_lst, z_truth_str, z_add, z_sub, z_mul, z_fdiv, z_mod, z_addl, z_addt, z_cop_eq, z_cop_ne, z_cop_lt, z_cop_le, z_cop_gt, z_cop_ge, z_cop_in, z_cop_notIn, z_cop_is, z_cop_isNot, z_eqI, z_neI, z_index_lst, z_index_tup, z_at0, z_at1, z_len_lst, z_len_tup, z_len_scr, z_abs, z_int, z_intb, z_tuple_lst, z_tuple_tup, z_list_lst, z_list_tup, z_isTy_ii, z_isTy_bi, z_isTy_tt, z_walk_seq, z_items_lst, z_items_tup, z_walk_r1, z_walk_r2, z_walk_enum, z_zip_ll, z_zip_lt, z_zip_tl, z_zip_tt, z_bindT_one, z_wipe_nil, z_wipe_cons, z_setOwns_nil, z_setOwns_cons, z_start, z_bindL_nil, z_bindL_cons, z_bindT_many, z_endM_nothing])
/-- a list of sixty draws -/
structure Draws (ds : List Int) : Prop where
  len : ds.length = 60
  ok : ∀ d ∈ ds, okD d
theorem Draws.at {ds : List Int} (h : Draws ds) (a : Int) : ∃ d, okD d ∧ atI (ds.map D.int) (a.fmod 60) = pure (.int d) := by
  obtain ⟨h1, h2⟩ := fmod_b a (b := 60) (by decide)
  obtain ⟨d, m, e⟩ := at_int (ds := ds) h1 (by rw [h.len]; omega)
  exact ⟨d, h.ok d m, e⟩
theorem nat_of {a : Int} (h : 0 ≤ a) : ∃ n : Nat, a = n := ⟨a.toNat, by omega⟩
theorem fmod_nat' (a : Int) {b : Nat} (hb : 0 < b) : ∃ n : Nat, n < b ∧ Int.fmod a (b : Int) = n := by
  obtain ⟨h1, h2⟩ := fmod_b a (b := (b : Int)) (by omega)
  exact ⟨(Int.fmod a (b : Int)).toNat, by omega, by omega⟩
def tabL : List PI2 := [(0, 1), (1, 1), (2, 1), (3, 1), (1, 2), (3, 2), (1, 3), (5, 1), (1, 1)]
def tabS : List PI2 := [(0, 1), (1, 1), (1, 2), (1, 3), (2, 3), (1, 4), (3, 4), (1, 5), (1, 1)]
theorem tab_at {t : List PI2} (h : t.length = 9) (a : Int) : ∃ p ∈ t, atI (t.map pd) (a.fmod 9) = pure (pd p) := by
  obtain ⟨h1, h2⟩ := fmod_b a (b := 9) (by decide)
  obtain ⟨d, m, e⟩ := atI_get (ds := t.map pd) h1 (by rw [List.length_map, h]; omega)
  obtain ⟨p, hp, rfl⟩ := List.mem_map.mp m
  exact ⟨p, hp, e⟩
theorem range_get {n i z : Nat} (h : (List.range n)[i]? = some z) : z = i ∧ i < n := by
  have hl := (List.getElem?_eq_some_iff.mp h).1
  rw [List.length_range] at hl
  rw [List.getElem?_range hl] at h
  exact ⟨(Option.some.inj h).symm, hl⟩
theorem l_light_ok {T : Tab} (h : T.fn i_l_light = some f_l_light) {k bands : Nat} {a : Int} {ds : List Int} (hd : Draws ds) (ha : 0 ≤ a) (hb : bands ≤ 1000) :
    ∃ ls : List PI2, ls.length = bands ∧ (∀ l ∈ ls, l ∈ tabL) ∧ callF T (k + 1) i_l_light [.lst (ds.map .int), .int a, .int (bands : Int)] = pure (.tup (ls.map pd)) := by
  rw [callF_eq h rfl]
  unfold f_l_light B_l_light
  trivial
  obtain ⟨ρ', ⟨xs, s4, s5, e1, e2, e3⟩, e4⟩ := for_map (X := clT T k) (F := T.F) (q := .range1) (es := .acons (.var 2) .anil) (tg := .one 4)
    (a := (.seq (.set 5 (.bin .mod (.ix (.var 0) (.bin .mod (.bin .add (.var 1) (.bin .mul (.int 2) (.var 4))) (.int 60))) (.int 9))) (.seq (.append 3 (.ix (.lst (.acons (.tup (.acons (.int 0) (.acons (.int 1) .anil))) (.acons (.tup (.acons (.int 1) (.acons (.int 1) .anil))) (.acons (.tup (.acons (.int 2) (.acons (.int 1) .anil))) (.acons (.tup (.acons (.int 3) (.acons (.int 1) .anil))) (.acons (.tup (.acons (.int 1) (.acons (.int 2) .anil))) (.acons (.tup (.acons (.int 3) (.acons (.int 2) .anil))) (.acons (.tup (.acons (.int 1) (.acons (.int 3) .anil))) (.acons (.tup (.acons (.int 5) (.acons (.int 1) .anil))) (.acons (.tup (.acons (.int 1) (.acons (.int 1) .anil))) .anil)))))))))) (.var 5))) .skip)))
    (ρ := [.val (.lst (ds.map .int)), .val (.int a), .val (.int (bands : Int)), .own [], .none, .none]) (fun i : Nat => D.int (i : Int))
    (fun i ρ => ∃ (xs : List PI2) (s4 s5 : Sl), xs.length = i ∧ (∀ l ∈ xs, l ∈ tabL) ∧ ρ = [.val (.lst (ds.map .int)), .val (.int a), .val (.int (bands : Int)), .own (xs.map pd), s4, s5]) (List.range bands) (as := [.int (bands : Int)]) (bs := [.int (bands : Int)])
    (by trivial) (by trivial) (by trivial; exact rangeM_ok (by omega)) rfl ⟨[], .none, .none, rfl, fun _ m => (List.not_mem_nil m).elim, rfl⟩ (by
      rintro i z ρ hi ⟨xs, s4, s5, h1, h2, rfl⟩
      obtain ⟨rfl, hlt⟩ := range_get hi
      obtain ⟨d, hd1, hd2⟩ := hd.at (a + 2 * (z : Int))
      obtain ⟨p, hp1, hp2⟩ := tab_at (t := tabL) rfl d
      have hlim : (xs.map pd).length < lim := by
        rw [List.length_map, h1]
        exact Nat.lt_of_lt_of_le hlt (Nat.le_trans hb (by decide))
      refine ⟨[.val (.lst (ds.map .int)), .val (.int a), .val (.int (bands : Int)), .own (xs.map pd), .val (.int z), s5], [.val (.lst (ds.map .int)), .val (.int a), .val (.int (bands : Int)), .own ((xs ++ [p]).map pd), .val (.int z), .val (.int (d.fmod 9))], rfl, .inl ?_, ⟨_, _, _, by rw [List.length_append, h1]; rfl, fun l m => ?_, rfl⟩⟩
      · trivial
        rw [mulOk_of (a := 2) (b := 11) (by decide) (by omega) (by decide)]
        trivial
        rw [hd2]
        trivial
        have hp3 : atI [.tup [.int 0, .int 1], .tup [.int 1, .int 1], .tup [.int 2, .int 1], .tup [.int 3, .int 1], .tup [.int 1, .int 2], .tup [.int 3, .int 2], .tup [.int 1, .int 3], .tup [.int 5, .int 1], .tup [.int 1, .int 1]] (d.fmod 9) = pure (pd p) := hp2
        rw [hp3]
        trivial
        rw [if_pos hlim]
        trivial
        rw [List.map_append]
        rfl
      · rcases List.mem_append.mp m with m | m
        · exact h2 l m
        · have : l = p := by simpa using m
          rw [this]; exact hp1)
  rw [e4, e3]
  trivial
  rw [List.length_range] at e1
  exact ⟨xs, e1, e2, rfl⟩
theorem l_surface_ok {T : Tab} (h : T.fn i_l_surface = some f_l_surface) {k bands : Nat} {a : Int} {ds : List Int} (hd : Draws ds) (ha : 0 ≤ a) (hb : bands ≤ 1000) :
    ∃ ls : List PI2, ls.length = bands ∧ (∀ l ∈ ls, l ∈ tabS) ∧ callF T (k + 1) i_l_surface [.lst (ds.map .int), .int a, .int (bands : Int)] = pure (.tup (ls.map pd)) := by
  rw [callF_eq h rfl]
  unfold f_l_surface B_l_surface
  trivial
  obtain ⟨ρ', ⟨xs, s4, s5, e1, e2, e3⟩, e4⟩ := for_map (X := clT T k) (F := T.F) (q := .range1) (es := .acons (.var 2) .anil) (tg := .one 4)
    (a := (.seq (.set 5 (.bin .mod (.ix (.var 0) (.bin .mod (.bin .add (.var 1) (.bin .mul (.int 3) (.var 4))) (.int 60))) (.int 9))) (.seq (.append 3 (.ix (.lst (.acons (.tup (.acons (.int 0) (.acons (.int 1) .anil))) (.acons (.tup (.acons (.int 1) (.acons (.int 1) .anil))) (.acons (.tup (.acons (.int 1) (.acons (.int 2) .anil))) (.acons (.tup (.acons (.int 1) (.acons (.int 3) .anil))) (.acons (.tup (.acons (.int 2) (.acons (.int 3) .anil))) (.acons (.tup (.acons (.int 1) (.acons (.int 4) .anil))) (.acons (.tup (.acons (.int 3) (.acons (.int 4) .anil))) (.acons (.tup (.acons (.int 1) (.acons (.int 5) .anil))) (.acons (.tup (.acons (.int 1) (.acons (.int 1) .anil))) .anil)))))))))) (.var 5))) .skip)))
    (ρ := [.val (.lst (ds.map .int)), .val (.int a), .val (.int (bands : Int)), .own [], .none, .none]) (fun i : Nat => D.int (i : Int))
    (fun i ρ => ∃ (xs : List PI2) (s4 s5 : Sl), xs.length = i ∧ (∀ l ∈ xs, l ∈ tabS) ∧ ρ = [.val (.lst (ds.map .int)), .val (.int a), .val (.int (bands : Int)), .own (xs.map pd), s4, s5]) (List.range bands) (as := [.int (bands : Int)]) (bs := [.int (bands : Int)])
    (by trivial) (by trivial) (by trivial; exact rangeM_ok (by omega)) rfl ⟨[], .none, .none, rfl, fun _ m => (List.not_mem_nil m).elim, rfl⟩ (by
      rintro i z ρ hi ⟨xs, s4, s5, h1, h2, rfl⟩
      obtain ⟨rfl, hlt⟩ := range_get hi
      obtain ⟨d, hd1, hd2⟩ := hd.at (a + 3 * (z : Int))
      obtain ⟨p, hp1, hp2⟩ := tab_at (t := tabS) rfl d
      have hlim : (xs.map pd).length < lim := by
        rw [List.length_map, h1]
        exact Nat.lt_of_lt_of_le hlt (Nat.le_trans hb (by decide))
      refine ⟨[.val (.lst (ds.map .int)), .val (.int a), .val (.int (bands : Int)), .own (xs.map pd), .val (.int z), s5], [.val (.lst (ds.map .int)), .val (.int a), .val (.int (bands : Int)), .own ((xs ++ [p]).map pd), .val (.int z), .val (.int (d.fmod 9))], rfl, .inl ?_, ⟨_, _, _, by rw [List.length_append, h1]; rfl, fun l m => ?_, rfl⟩⟩
      · trivial
        rw [mulOk_of (a := 2) (b := 11) (by decide) (by omega) (by decide)]
        trivial
        rw [hd2]
        trivial
        have hp3 : atI [.tup [.int 0, .int 1], .tup [.int 1, .int 1], .tup [.int 1, .int 2], .tup [.int 1, .int 3], .tup [.int 2, .int 3], .tup [.int 1, .int 4], .tup [.int 3, .int 4], .tup [.int 1, .int 5], .tup [.int 1, .int 1]] (d.fmod 9) = pure (pd p) := hp2
        rw [hp3]
        trivial
        rw [if_pos hlim]
        trivial
        rw [List.map_append]
        rfl
      · rcases List.mem_append.mp m with m | m
        · exact h2 l m
        · have : l = p := by simpa using m
          rw [this]; exact hp1)
  rw [e4, e3]
  trivial
  rw [List.length_range] at e1
  exact ⟨xs, e1, e2, rfl⟩
theorem l_lights_ok {T : Tab} (h : T.fn i_l_lights = some f_l_lights) (h2 : T.fn i_l_light = some f_l_light) {k bands most : Nat} {a : Int} {ds : List Int} (hd : Draws ds) (ha : 0 ≤ a) (hb : bands ≤ 1000) (hm : 0 < most) (hm2 : most ≤ 1000) :
    ∃ lss : List (List PI2), 1 ≤ lss.length ∧ lss.length ≤ most ∧ (∀ ls ∈ lss, ls.length = bands ∧ ∀ l ∈ ls, l ∈ tabL) ∧ callF T (k + 2) i_l_lights [.lst (ds.map .int), .int a, .int (bands : Int), .int (most : Int)] = pure (.tup (lss.map fun ls => .tup (ls.map pd))) := by
  rw [callF_eq h rfl]
  unfold f_l_lights B_l_lights
  trivial
  obtain ⟨d, hd1, hd2⟩ := hd.at a
  obtain ⟨n, hn1, hn2⟩ := fmod_nat' d hm
  obtain ⟨r, r1, r2, r3⟩ := comp_ex (X := clT T (k + 1)) (q := .range1) (es := .acons (.bin .add (.int 1) (.bin .mod (.ix (.var 0) (.bin .mod (.var 1) (.int 60))) (.var 3))) .anil) (tg := .one 4) (own := [4])
    (el := .call 52 (.acons (.var 0) (.acons (.bin .add (.var 1) (.bin .mul (.int 7) (.var 4))) (.acons (.var 2) .anil)))) (ρ := [.val (.lst (ds.map .int)), .val (.int a), .val (.int (bands : Int)), .val (.int (most : Int)), .none])
    (fun i : Nat => D.int (i : Int)) (fun _ y => ∃ ls : List PI2, (ls.length = bands ∧ ∀ l ∈ ls, l ∈ tabL) ∧ y = .tup (ls.map pd)) (List.range (1 + n)) (as := [.int ((1 + n : Nat) : Int)]) (bs := [.int ((1 + n : Nat) : Int)])
    (by
      trivial
      rw [hd2]
      trivial
      rw [if_pos (show (most : Int) ≠ 0 by omega)]
      trivial
      rw [hn2]
      rfl) (by trivial) (by trivial; exact rangeM_ok (by omega)) rfl (fun z hz => by
      have hz' : z < 1 + n := List.mem_range.mp hz
      obtain ⟨ls, l1, l2, l3⟩ := l_light_ok h2 (k := k) (bands := bands) (a := a + 7 * (z : Int)) hd (by omega) hb
      refine ⟨_, _, rfl, ?_, ls, ⟨l1, l2⟩, rfl⟩
      trivial
      rw [mulOk_of (a := 3) (b := 12) (by decide) (by omega) (by decide)]
      trivial
      exact l3)
  rw [r3]
  trivial
  obtain ⟨lss, e1, e2⟩ := lift_list (f := fun ls : List PI2 => D.tup (ls.map pd)) (P := fun ls => ls.length = bands ∧ ∀ l ∈ ls, l ∈ tabL) (ys := r.map (·.2)) fun y hy => by
    obtain ⟨p, hp, rfl⟩ := List.mem_map.mp hy
    exact r2 p hp
  have hl : lss.length = 1 + n := by
    have h1 := congrArg List.length e1
    have h2 := congrArg List.length r1
    simp only [List.length_map, List.length_range] at h1 h2
    omega
  rw [e1]
  exact ⟨lss, by omega, by omega, e2, rfl⟩
end EV

/-! EvDraw3: drawn eyes. -/
namespace EV
open PySem
local macro_rules | `(tactic| trivial) => `(tactic| simp only [pure_bind, bind_assoc, if_true, List.map_cons, List.map_nil, List.length_cons, List.length_nil, List.cons_append, List.nil_append, List.replicate_succ, List.replicate_zero, Nat.reduceAdd, Nat.reduceSub, Nat.reduceLeDiff, Int.reduceNe, List.isEmpty_nil, Bool.not_true, Bool.not_false, Bool.false_eq_true, if_false, z_run_ret, z_run_nx, z_run_thr, z_lft_pure, z_lft_raise, z_lftA_pure, z_lftA_raise, z_thenO_nx, z_thenO_ct, z_thenO_ret, z_thenO_thr, z_ex_skip, z_ex_seq, z_ex_cont, z_ex_pub, z_ex_set, z_ex_setOwn, z_ex_unpack, z_ex_par, z_ex_append, z_ex_extend, z_ex_setix, z_ex_expr, z_ex_ife, z_ex_ret, z_ex_retN, z_ex_raise, z_ex_aug, z_ev_var, z_ev_int, z_ev_bl, z_ev_non, z_ev_str, z_ev_glo, z_ev_tup, z_ev_lst, z_ev_bin, z_ev_neg, z_ev_not, z_ev_and, z_ev_or, z_ev_cmp, z_ev_chain, z_ev_ite, z_ev_ix, z_ev_sl, z_ev_call, z_ev_blt, z_ev_isi, z_ea_nil, z_ea_cons, z_ew_nil, z_ew_cons, z_ev_I, z_eo_f, z_eo_t, z_callM_cons, z_callM_nil, z_calm_pure, z_condM_nothing, z_clT_call, z_clT_glo, z_getV_zero, z_getV_succ, z_via_zero, z_via_own, z_via_succ, z_via_int, z_via_bl, z_via_non, z_via_str, z_via_glo, z_via_tup, z_via_lst, z_via_bin, z_via_neg, z_via_not, z_via_and, z_via_or, z_via_cmp, z_via_chain, z_via_ite, z_via_ix, z_via_sl, z_via_call, z_via_calli, z_via_blt, z_via_isi, z_via_comp, z_setV_zero, z_setV_succ, z_set_zero, z_set_succ, z_getL_own, z_getL_succ, z_putL_own, z_putL_succ, z_view_int, z_view_bl, z_view_non, z_view_str, z_view_tup, z_view_lst, z_view_scr, z_viewAll_nil, z_viewAll_cons, z_truth_non, z_truth_bl, z_truth_int, z_truth_tup, z_truth_lst, z_truth_str, z_add, z_sub, z_mul, z_fdiv, z_mod, z_addl, z_addt, z_cop_eq, z_cop_ne, z_cop_lt, z_cop_le, z_cop_gt, z_cop_ge, z_cop_in, z_cop_notIn, z_cop_is, z_cop_isNot, z_eqI, z_neI, z_index_lst, z_index_tup, z_at0, z_at1, z_len_lst, z_len_tup, z_len_scr, z_abs, z_int, z_intb, z_tuple_lst, z_tuple_tup, z_list_lst, z_list_tup, z_isTy_ii, z_isTy_bi, z_isTy_tt, z_walk_seq, z_items_lst, z_items_tup, z_walk_r1, z_walk_r2, z_walk_enum, z_zip_ll, z_zip_lt, z_zip_tl, z_zip_tt, z_bindT_one, z_wipe_nil, z_wipe_cons, z_setOwns_nil, z_setOwns_cons, z_start, z_bindL_nil, z_bindL_cons, z_bindT_many, z_endM_nothing])
theorem intsD_map : ∀ xs : List Int, intsD (xs.map D.int) = some xs
  | [] => rfl
  | x :: xs => by
    show (match intsD (xs.map D.int) with
      | some is => some (x :: is)
      | none => none) = _
    rw [intsD_map xs]
theorem sum_ok (xs : List Int) : bfn .sum [.lst (xs.map .int)] = pure (.int xs.sum) := by
  show (match intsD (xs.map D.int) with
    | some is => pure (D.int is.sum)
    | none => M.stuck) = _
  rw [intsD_map]
theorem sum_okT (xs : List Int) : bfn .sum [.tup (xs.map .int)] = pure (.int xs.sum) := by
  show (match intsD (xs.map D.int) with
    | some is => pure (D.int is.sum)
    | none => M.stuck) = _
  rw [intsD_map]
theorem sum_nonneg : ∀ {xs : List Int}, (∀ x ∈ xs, 0 ≤ x) → 0 ≤ xs.sum
  | [], _ => Int.le_refl _
  | x :: xs, h => by
    have h1 := h x List.mem_cons_self
    have h2 := sum_nonneg (xs := xs) fun y m => h y (List.mem_cons_of_mem _ m)
    rw [List.sum_cons]
    omega
theorem sum_pos_of : ∀ {xs : List Int} {i : Nat}, (∀ x ∈ xs, 0 ≤ x) → xs[i]? = some 1 → 0 < xs.sum
  | [], i, _, e => by simp at e
  | x :: xs, 0, h, e => by
    have e' : x = 1 := by simpa using e
    have h2 := sum_nonneg (xs := xs) fun y m => h y (List.mem_cons_of_mem _ m)
    rw [List.sum_cons]
    omega
  | x :: xs, i + 1, h, e => by
    have h1 := h x List.mem_cons_self
    have h2 := sum_pos_of (xs := xs) (i := i) (fun y m => h y (List.mem_cons_of_mem _ m)) (by simpa using e)
    rw [List.sum_cons]
    omega
def okW (w : Int) : Prop := 0 ≤ w ∧ w ≤ 3
structure OkEye (bands : Nat) (ws : List Int) : Prop where
  len : ws.length = bands
  w : ∀ w ∈ ws, okW w
  pos : 0 < ws.sum
theorem six_at (a : Int) : ∃ w, okW w ∧ atI [.int 0, .int 1, .int 2, .int 3, .int 0, .int 1] (a.fmod 6) = pure (.int w) := by
  obtain ⟨h1, h2⟩ := fmod_b a (b := 6) (by decide)
  obtain ⟨w, m, e⟩ := at_int (ds := [0, 1, 2, 3, 0, 1]) h1 (by simpa using h2)
  refine ⟨w, ?_, e⟩
  unfold okW
  simp only [List.mem_cons, List.not_mem_nil, or_false] at m
  omega
def eyeRow : MS := .for_ .range1 (.acons (.var 2) .anil) (.one 7) (.seq (.set 8 (.bin .mod (.bin .add (.bin .add (.var 1) (.bin .mul (.int 7) (.var 5))) (.bin .mul (.int 3) (.var 7))) (.int 60))) (.seq (.append 6 (.ix (.lst (.acons (.int 0) (.acons (.int 1) (.acons (.int 2) (.acons (.int 3) (.acons (.int 0) (.acons (.int 1) .anil))))))) (.bin .mod (.ix (.var 0) (.var 8)) (.int 6)))) .skip))
theorem eyeRow_ok {X : Cl} {F bands : Nat} {a n : Int} {ds : List Int} {s3 s4 s7 s8 : Sl} (hd : Draws ds) (hb : bands ≤ 1000) (hn : n.natAbs < 2 ^ 20) :
    ∃ (ws : List Int) (s7' s8' : Sl), ws.length = bands ∧ (∀ w ∈ ws, okW w) ∧ ex X F eyeRow [.val (.lst (ds.map .int)), .val (.int a), .val (.int (bands : Int)), s3, s4, .val (.int n), .own [], s7, s8] = pure (.nx [.val (.lst (ds.map .int)), .val (.int a), .val (.int (bands : Int)), s3, s4, .val (.int n), .own (ws.map .int), s7', s8']) := by
  unfold eyeRow
  obtain ⟨ρ', ⟨ws, s7', s8', e1, e2, e3⟩, e4⟩ := for_map (X := X) (F := F) (q := .range1) (es := .acons (.var 2) .anil) (tg := .one 7)
    (a := (.seq (.set 8 (.bin .mod (.bin .add (.bin .add (.var 1) (.bin .mul (.int 7) (.var 5))) (.bin .mul (.int 3) (.var 7))) (.int 60))) (.seq (.append 6 (.ix (.lst (.acons (.int 0) (.acons (.int 1) (.acons (.int 2) (.acons (.int 3) (.acons (.int 0) (.acons (.int 1) .anil))))))) (.bin .mod (.ix (.var 0) (.var 8)) (.int 6)))) .skip)))
    (ρ := [.val (.lst (ds.map .int)), .val (.int a), .val (.int (bands : Int)), s3, s4, .val (.int n), .own [], s7, s8]) (fun i : Nat => D.int (i : Int))
    (fun i ρ => ∃ (ws : List Int) (s7' s8' : Sl), ws.length = i ∧ (∀ w ∈ ws, okW w) ∧ ρ = [.val (.lst (ds.map .int)), .val (.int a), .val (.int (bands : Int)), s3, s4, .val (.int n), .own (ws.map .int), s7', s8']) (List.range bands) (as := [.int (bands : Int)]) (bs := [.int (bands : Int)])
    (by trivial) (by trivial) (by trivial; exact rangeM_ok (by omega)) rfl ⟨[], s7, s8, rfl, fun _ m => (List.not_mem_nil m).elim, rfl⟩ (by
      rintro i z ρ hi ⟨ws, t7, t8, h1, h2, rfl⟩
      obtain ⟨rfl, hlt⟩ := range_get hi
      obtain ⟨d, hd1, hd2⟩ := hd.at (a + 7 * n + 3 * (z : Int))
      obtain ⟨w, hw1, hw2⟩ := six_at d
      have hlim : (ws.map D.int).length < lim := by
        rw [List.length_map, h1]
        exact Nat.lt_of_lt_of_le hlt (Nat.le_trans hb (by decide))
      refine ⟨[.val (.lst (ds.map .int)), .val (.int a), .val (.int (bands : Int)), s3, s4, .val (.int n), .own (ws.map .int), .val (.int z), t8], [.val (.lst (ds.map .int)), .val (.int a), .val (.int (bands : Int)), s3, s4, .val (.int n), .own ((ws ++ [w]).map .int), .val (.int z), .val (.int ((a + 7 * n + 3 * (z : Int)).fmod 60))], rfl, .inl ?_, ⟨_, _, _, by rw [List.length_append, h1]; rfl, fun l m => ?_, rfl⟩⟩
      · trivial
        rw [mulOk_of (a := 3) (b := 20) (by decide) hn (by decide), mulOk_of (a := 2) (b := 11) (by decide) (by omega) (by decide)]
        trivial
        rw [hd2]
        trivial
        rw [hw2]
        trivial
        rw [if_pos hlim]
        trivial
        rw [List.map_append]
        rfl
      · rcases List.mem_append.mp m with m | m
        · exact h2 l m
        · have : l = w := by simpa using m
          rw [this]; exact hw1)
  rw [List.length_range] at e1
  exact ⟨ws, s7', s8', e1, e2, by rw [e4, e3]⟩
def eyeFix : MS := .ife (.cmp .eq (.blt .sum (.acons (.var 6) .anil)) (.int 0)) (.seq (.setix 6 (.bin .mod (.ix (.var 0) (.bin .mod (.bin .add (.var 1) (.var 5)) (.int 60))) (.var 2)) (.int 1)) .skip) .skip
theorem eyeFix_ok {X : Cl} {F bands : Nat} {a n : Int} {ds ws : List Int} {s3 s4 s7 s8 : Sl} (hd : Draws ds) (hb : 0 < bands) (h1 : ws.length = bands) (h2 : ∀ w ∈ ws, okW w) :
    ∃ ws' : List Int, OkEye bands ws' ∧ ex X F eyeFix [.val (.lst (ds.map .int)), .val (.int a), .val (.int (bands : Int)), s3, s4, .val (.int n), .own (ws.map .int), s7, s8] = pure (.nx [.val (.lst (ds.map .int)), .val (.int a), .val (.int (bands : Int)), s3, s4, .val (.int n), .own (ws'.map .int), s7, s8]) := by
  unfold eyeFix
  trivial
  rw [sum_ok]
  trivial
  have hnn := sum_nonneg (xs := ws) fun w m => (h2 w m).1
  by_cases hs : ws.sum = 0
  · obtain ⟨d, hd1, hd2⟩ := hd.at (a + n)
    obtain ⟨j, hj1, hj2⟩ := fmod_nat' d hb
    rw [show (ws.sum == 0) = true by simpa using hs]
    trivial
    rw [hd2]
    trivial
    rw [if_pos (show (bands : Int) ≠ 0 by omega)]
    trivial
    rw [hj2, List.length_map, ixN_nat (by omega)]
    trivial
    refine ⟨ws.set j 1, ⟨by rw [List.length_set]; exact h1, fun w m => ?_, ?_⟩, by rw [List.map_set]⟩
    · rcases List.mem_or_eq_of_mem_set m with m | m
      · exact h2 w m
      · rw [m]; exact ⟨by decide, by decide⟩
    · refine sum_pos_of (i := j) (fun w m => ?_) (List.getElem?_set_self (by omega))
      rcases List.mem_or_eq_of_mem_set m with m | m
      · exact (h2 w m).1
      · rw [m]; decide
  · rw [show (ws.sum == 0) = false by simpa using hs]
    trivial
    exact ⟨ws, ⟨h1, h2, by omega⟩, rfl⟩
theorem l_eye_ok {T : Tab} (h : T.fn i_l_eye = some f_l_eye) {k bands most : Nat} {a : Int} {ds : List Int} (hd : Draws ds) (hb0 : 0 < bands) (hb : bands ≤ 1000) (hm : 0 < most) (hm2 : most ≤ 1000) :
    ∃ eye : List (List Int), 1 ≤ eye.length ∧ eye.length ≤ most ∧ (∀ ws ∈ eye, OkEye bands ws) ∧ callF T (k + 1) i_l_eye [.lst (ds.map .int), .int a, .int (bands : Int), .int (most : Int)] = pure (.tup (eye.map fun ws => .tup (ws.map .int))) := by
  rw [callF_eq h rfl]
  unfold f_l_eye B_l_eye
  trivial
  obtain ⟨d, hd1, hd2⟩ := hd.at a
  obtain ⟨n, hn1, hn2⟩ := fmod_nat' d hm
  obtain ⟨ρ', ⟨eye, s5, s6, s7, s8, e1, e2, e3⟩, e4⟩ := for_map (X := clT T k) (F := T.F) (q := .range1) (es := .acons (.bin .add (.int 1) (.bin .mod (.ix (.var 0) (.bin .mod (.var 1) (.int 60))) (.var 3))) .anil) (tg := .one 5)
    (a := .seq (.setOwn 6 (.lst .anil)) (.seq eyeRow (.seq eyeFix (.seq (.append 4 (.blt .tuple (.acons (.var 6) .anil))) .skip))))
    (ρ := [.val (.lst (ds.map .int)), .val (.int a), .val (.int (bands : Int)), .val (.int (most : Int)), .own [], .none, .none, .none, .none]) (fun i : Nat => D.int (i : Int))
    (fun i ρ => ∃ (eye : List (List Int)) (s5 s6 s7 s8 : Sl), eye.length = i ∧ (∀ ws ∈ eye, OkEye bands ws) ∧ ρ = [.val (.lst (ds.map .int)), .val (.int a), .val (.int (bands : Int)), .val (.int (most : Int)), .own (eye.map fun ws => .tup (ws.map .int)), s5, s6, s7, s8]) (List.range (1 + n)) (as := [.int ((1 + n : Nat) : Int)]) (bs := [.int ((1 + n : Nat) : Int)])
    (by
      trivial
      rw [hd2]
      trivial
      rw [if_pos (show (most : Int) ≠ 0 by omega)]
      trivial
      rw [hn2]
      rfl) (by trivial) (by trivial; exact rangeM_ok (by omega)) rfl ⟨[], .none, .none, .none, .none, rfl, fun _ m => (List.not_mem_nil m).elim, rfl⟩ (by
      rintro i z ρ hi ⟨eye, s5, s6, s7, s8, h1, h2, rfl⟩
      obtain ⟨rfl, hlt⟩ := range_get hi
      obtain ⟨ws, t7, t8, w1, w2, w3⟩ := eyeRow_ok (X := clT T k) (F := T.F) (a := a) (n := (z : Int)) (s3 := .val (.int (most : Int))) (s4 := .own (eye.map fun ws => .tup (ws.map .int))) (s7 := s7) (s8 := s8) hd hb (by omega)
      obtain ⟨ws', v1, v2⟩ := eyeFix_ok (X := clT T k) (F := T.F) (a := a) (n := (z : Int)) (s3 := .val (.int (most : Int))) (s4 := .own (eye.map fun ws => .tup (ws.map .int))) (s7 := t7) (s8 := t8) hd hb0 w1 w2
      have hlim : (eye.map fun ws : List Int => D.tup (ws.map D.int)).length < lim := by
        rw [List.length_map, h1]
        exact Nat.lt_of_lt_of_le (show z < 100000 by omega) (by decide)
      refine ⟨_, _, rfl, .inl ?_, eye ++ [ws'], .val (.int z), .own (ws'.map .int), t7, t8, by rw [List.length_append, h1]; rfl, fun l m => ?_, rfl⟩
      · trivial
        rw [w3]
        trivial
        rw [v2]
        trivial
        rw [if_pos hlim]
        trivial
        rw [List.map_append]
        rfl
      · rcases List.mem_append.mp m with m | m
        · exact h2 l m
        · have : l = ws' := by simpa using m
          rw [this]; exact v1)
  unfold eyeRow eyeFix at e4
  rw [e4, e3]
  trivial
  rw [List.length_range] at e1
  exact ⟨eye, by omega, by omega, e2, rfl⟩
end EV

/-! EvChk: the checks let through what is drawn. -/
namespace EV
open PySem
local macro_rules | `(tactic| trivial) => `(tactic| simp only [pure_bind, bind_assoc, if_true, List.map_cons, List.map_nil, List.length_cons, List.length_nil, List.cons_append, List.nil_append, List.replicate_succ, List.replicate_zero, Nat.reduceAdd, Nat.reduceSub, Nat.reduceLeDiff, Int.reduceNe, List.isEmpty_nil, Bool.not_true, Bool.not_false, Bool.false_eq_true, if_false, z_run_ret, z_run_nx, z_run_thr, z_lft_pure, z_lft_raise, z_lftA_pure, z_lftA_raise, z_thenO_nx, z_thenO_ct, z_thenO_ret, z_thenO_thr, z_ex_skip, z_ex_seq, z_ex_cont, z_ex_pub, z_ex_set, z_ex_setOwn, z_ex_unpack, z_ex_par, z_ex_append, z_ex_extend, z_ex_setix, z_ex_expr, z_ex_ife, z_ex_ret, z_ex_retN, z_ex_raise, z_ex_aug, z_ev_var, z_ev_int, z_ev_bl, z_ev_non, z_ev_str, z_ev_glo, z_ev_tup, z_ev_lst, z_ev_bin, z_ev_neg, z_ev_not, z_ev_and, z_ev_or, z_ev_cmp, z_ev_chain, z_ev_ite, z_ev_ix, z_ev_sl, z_ev_call, z_ev_blt, z_ev_isi, z_ea_nil, z_ea_cons, z_ew_nil, z_ew_cons, z_ev_I, z_eo_f, z_eo_t, z_callM_cons, z_callM_nil, z_calm_pure, z_condM_nothing, z_clT_call, z_clT_glo, z_getV_zero, z_getV_succ, z_via_zero, z_via_own, z_via_succ, z_via_int, z_via_bl, z_via_non, z_via_str, z_via_glo, z_via_tup, z_via_lst, z_via_bin, z_via_neg, z_via_not, z_via_and, z_via_or, z_via_cmp, z_via_chain, z_via_ite, z_via_ix, z_via_sl, z_via_call, z_via_calli, z_via_blt, z_via_isi, z_via_comp, z_setV_zero, z_setV_succ, z_set_zero, z_set_succ, z_getL_own, z_getL_succ, z_putL_own, z_putL_succ, z_view_int, z_view_bl, z_view_non, z_view_str, z_view_tup, z_view_lst, z_view_scr, z_viewAll_nil, z_viewAll_cons, z_truth_non, z_truth_bl, z_truth_int, z_truth_tup, z_truth_lst, z_truth_str, z_add, z_sub, z_mul, z_fdiv, z_mod, z_addl, z_addt, z_cop_eq, z_cop_ne, z_cop_lt, z_cop_le, z_cop_gt, z_cop_ge, z_cop_in, z_cop_notIn, z_cop_is, z_cop_isNot, z_eqI, z_neI, z_index_lst, z_index_tup, z_at0, z_at1, z_len_lst, z_len_tup, z_len_scr, z_abs, z_int, z_intb, z_tuple_lst, z_tuple_tup, z_list_lst, z_list_tup, z_isTy_ii, z_isTy_bi, z_isTy_tt, z_walk_seq, z_items_lst, z_items_tup, z_walk_r1, z_walk_r2, z_walk_enum, z_zip_ll, z_zip_lt, z_zip_tl, z_zip_tt, z_bindT_one, z_wipe_nil, z_wipe_cons, z_setOwns_nil, z_setOwns_cons, z_start, z_bindL_nil, z_bindL_cons, z_bindT_many, z_endM_nothing])
theorem in_range_ok {T : Tab} (h : T.fn i_in_range = some f_in_range) {k : Nat} {v lo hi : Int} : callF T (k + 1) i_in_range [.int v, .int lo, .int hi] = pure (.bl (decide (lo ≤ v ∧ v ≤ hi))) := by
  rw [callF_eq h rfl]
  unfold f_in_range B_in_range
  trivial
  by_cases h1 : lo ≤ v
  · rw [decide_eq_true h1]
    trivial
    simp [h1]
  · rw [decide_eq_false h1]
    trivial
    simp [h1]
structure HChk (T : Tab) : Prop extends HCol T where
  in_range : T.fn i_in_range = some f_in_range
  is_fraction : T.fn i_is_fraction = some f_is_fraction
  is_light : T.fn i_is_light = some f_is_light
  is_light_for : T.fn i_is_light_for = some f_is_light_for
  is_surface : T.fn i_is_surface = some f_is_surface
  is_surface_for : T.fn i_is_surface_for = some f_is_surface_for
  is_answer : T.fn i_is_answer = some f_is_answer
  is_eye : T.fn i_is_eye = some f_is_eye
  check_eye : T.fn i_check_eye = some f_check_eye
  limit : T.glo 0 = some (.int (10 ^ 30))
  bands : T.glo 1 = some (.int 5)
def okF (p : PI2) : Prop := 0 ≤ p.1 ∧ p.1 ≤ 10 ^ 30 ∧ 1 ≤ p.2 ∧ p.2 ≤ 10 ^ 30 ∧ Int.gcd p.1 p.2 = 1
instance (p : PI2) : Decidable (okF p) := by unfold okF; exact inferInstance
theorem okF_sm {p : PI2} (h : okF p) : sm 100 p.1 p.2 := by
  obtain ⟨h1, h2, h3, h4, _⟩ := h
  have e : (10 : Nat) ^ 30 < 2 ^ 100 := by decide
  have e2 : ((10 : Nat) ^ 30 : Int) = 10 ^ 30 := by decide
  constructor <;> omega
theorem is_fraction_ok {T : Tab} (h : HChk T) {k : Nat} {p : PI2} (hp : okF p) : callF T (k + 2) i_is_fraction [pd p] = pure (.bl true) := by
  have s := okF_sm hp
  obtain ⟨h1, h2, h3, h4, h5⟩ := hp
  rw [callF_eq h.is_fraction rfl]
  unfold f_is_fraction B_is_fraction pd pr
  trivial
  rw [show (((2 : Nat) : Int) == 2) = true from rfl]
  trivial
  rw [h.limit]
  trivial
  rw [in_range_ok h.in_range, decide_eq_true (show 0 ≤ p.1 ∧ p.1 ≤ 10 ^ 30 from ⟨h1, h2⟩)]
  trivial
  rw [in_range_ok h.in_range, decide_eq_true (show 1 ≤ p.2 ∧ p.2 ≤ 10 ^ 30 from ⟨h3, h4⟩)]
  trivial
  rw [gcd_ok h.gcd s.2 (by have := h.F; omega), h5]
  trivial
  rfl
theorem filter_none {α : Type} (l : List α) : l.filter (fun _ => false) = [] := List.filter_eq_nil_iff.mpr fun _ _ => Bool.false_ne_true
theorem is_light_ok {T : Tab} (h : HChk T) {k : Nat} {ls : List PI2} (h1 : 1 ≤ ls.length) (h5 : ls.length ≤ 5) (hl : ∀ l ∈ ls, okF l) : callF T (k + 3) i_is_light [.tup (ls.map pd)] = pure (.bl true) := by
  rw [callF_eq h.is_light rfl]
  unfold f_is_light B_is_light
  trivial
  rw [List.length_map, h.bands, decide_eq_true (show (1 : Int) ≤ (ls.length : Int) by omega)]
  trivial
  rw [decide_eq_true (show (ls.length : Int) ≤ 5 by omega)]
  trivial
  rw [comp_filter pd pd (fun _ => false) ls (as := [.tup (ls.map pd)]) (bs := [.tup (ls.map pd)]) ?_ ?_ ?_ ?_ ?_ ?_]
  · rw [filter_none]
    trivial
  · exact fun z => nomatch z
  · trivial
  · trivial
  · trivial
  · rfl
  · intro l m
    refine ⟨_, rfl, ?_, fun z => nomatch z⟩
    trivial
    rw [is_fraction_ok h (hl l m)]
    trivial
theorem is_light_for_ok {T : Tab} (h : HChk T) {k : Nat} {bands : Nat} {ls : List PI2} (hb : ls.length = bands) (h1 : 1 ≤ bands) (h5 : bands ≤ 5) (hl : ∀ l ∈ ls, okF l) : callF T (k + 4) i_is_light_for [.int (bands : Int), .tup (ls.map pd)] = pure (.bl true) := by
  rw [callF_eq h.is_light_for rfl]
  unfold f_is_light_for B_is_light_for
  trivial
  rw [is_light_ok h (by omega) (by omega) hl]
  trivial
  rw [List.length_map, hb]
  simp
theorem check_lights_ok {T : Tab} (h : HChk T) (hc : T.fn i_check_lights = some f_check_lights) {k : Nat} {bands : Nat} {most : Int} {lss : List (List PI2)} (h1 : 1 ≤ bands) (h5 : bands ≤ 5) (n1 : 1 ≤ lss.length) (n2 : (lss.length : Int) ≤ most) (hl : ∀ ls ∈ lss, ls.length = bands ∧ ∀ l ∈ ls, okF l) :
    callF T (k + 5) i_check_lights [.int (bands : Int), .tup (lss.map fun ls => .tup (ls.map pd)), .int most] = pure .non := by
  rw [callF_eq hc rfl]
  unfold f_check_lights B_check_lights
  trivial
  rw [List.length_map, decide_eq_true (show (1 : Int) ≤ (lss.length : Int) by omega)]
  trivial
  rw [decide_eq_true n2]
  trivial
  rw [comp_filter (fun ls : List PI2 => D.tup (ls.map pd)) (fun ls => D.tup (ls.map pd)) (fun _ => false) lss (as := [.tup (lss.map fun ls => .tup (ls.map pd))]) (bs := [.tup (lss.map fun ls => .tup (ls.map pd))]) ?_ ?_ ?_ ?_ ?_ ?_]
  · rw [filter_none]
    trivial
  · exact fun z => nomatch z
  · trivial
  · trivial
  · trivial
  · rfl
  · intro ls m
    refine ⟨_, rfl, ?_, fun z => nomatch z⟩
    trivial
    rw [is_light_for_ok h (hl ls m).1 h1 h5 (hl ls m).2]
    trivial
theorem is_surface_ok {T : Tab} (h : HChk T) {k : Nat} {ls : List PI2} (h1 : 1 ≤ ls.length) (h5 : ls.length ≤ 5) (hl : ∀ l ∈ ls, okF l ∧ l.1 ≤ l.2) : callF T (k + 3) i_is_surface [.tup (ls.map pd)] = pure (.bl true) := by
  rw [callF_eq h.is_surface rfl]
  unfold f_is_surface B_is_surface
  trivial
  rw [List.length_map, h.bands, decide_eq_true (show (1 : Int) ≤ (ls.length : Int) by omega)]
  trivial
  rw [decide_eq_true (show (ls.length : Int) ≤ 5 by omega)]
  trivial
  rw [comp_filter pd pd (fun _ => false) ls (as := [.tup (ls.map pd)]) (bs := [.tup (ls.map pd)]) ?_ ?_ ?_ ?_ ?_ ?_]
  · rw [filter_none]
    trivial
  · exact fun z => nomatch z
  · trivial
  · trivial
  · trivial
  · rfl
  · intro l m
    refine ⟨_, rfl, ?_, fun z => nomatch z⟩
    trivial
    rw [is_fraction_ok h (hl l m).1]
    trivial
    unfold pd pr
    trivial
    rw [decide_eq_false (show ¬ (l.2 < l.1) by have := (hl l m).2; omega)]

theorem is_surface_for_ok {T : Tab} (h : HChk T) {k : Nat} {bands : Nat} {ls : List PI2} (hb : ls.length = bands) (h1 : 1 ≤ bands) (h5 : bands ≤ 5) (hl : ∀ l ∈ ls, okF l ∧ l.1 ≤ l.2) : callF T (k + 4) i_is_surface_for [.int (bands : Int), .tup (ls.map pd)] = pure (.bl true) := by
  rw [callF_eq h.is_surface_for rfl]
  unfold f_is_surface_for B_is_surface_for
  trivial
  rw [is_surface_ok h (by omega) (by omega) hl]
  trivial
  rw [List.length_map, hb]
  simp
theorem check_surfaces_ok {T : Tab} (h : HChk T) (hc : T.fn i_check_surfaces = some f_check_surfaces) (hm : T.glo 4 = some (.int 6)) {k : Nat} {bands : Nat} {lss : List (List PI2)} (h1 : 1 ≤ bands) (h5 : bands ≤ 5) (n1 : 1 ≤ lss.length) (n2 : lss.length ≤ 6) (hl : ∀ ls ∈ lss, ls.length = bands ∧ ∀ l ∈ ls, okF l ∧ l.1 ≤ l.2) :
    callF T (k + 5) i_check_surfaces [.int (bands : Int), .tup (lss.map fun ls => .tup (ls.map pd))] = pure .non := by
  rw [callF_eq hc rfl]
  unfold f_check_surfaces B_check_surfaces
  trivial
  rw [List.length_map, hm, decide_eq_true (show (1 : Int) ≤ (lss.length : Int) by omega)]
  trivial
  rw [decide_eq_true (show (lss.length : Int) ≤ 6 by omega)]
  trivial
  rw [comp_filter (fun ls : List PI2 => D.tup (ls.map pd)) (fun ls => D.tup (ls.map pd)) (fun _ => false) lss (as := [.tup (lss.map fun ls => .tup (ls.map pd))]) (bs := [.tup (lss.map fun ls => .tup (ls.map pd))]) ?_ ?_ ?_ ?_ ?_ ?_]
  · rw [filter_none]
    trivial
  · exact fun z => nomatch z
  · trivial
  · trivial
  · trivial
  · rfl
  · intro ls m
    refine ⟨_, rfl, ?_, fun z => nomatch z⟩
    trivial
    rw [is_surface_for_ok h (hl ls m).1 h1 h5 (hl ls m).2]
    trivial
theorem is_answer_ok {T : Tab} (h : HChk T) {k : Nat} {ws : List Int} {bands : Nat} (h1 : 1 ≤ bands) (h5 : bands ≤ 5) (hw : OkEye bands ws) : callF T (k + 2) i_is_answer [.tup (ws.map .int)] = pure (.bl true) := by
  have hl := hw.len
  rw [callF_eq h.is_answer rfl]
  unfold f_is_answer B_is_answer
  trivial
  rw [List.length_map, h.bands, decide_eq_true (show (1 : Int) ≤ (ws.length : Int) by omega)]
  trivial
  rw [decide_eq_true (show (ws.length : Int) ≤ 5 by omega)]
  trivial
  rw [comp_filter D.int D.int (fun _ => false) ws (as := [.tup (ws.map .int)]) (bs := [.tup (ws.map .int)]) ?_ ?_ ?_ ?_ ?_ ?_]
  · rw [filter_none]
    trivial
    rw [sum_okT]
    trivial
    rw [decide_eq_true hw.pos]
  · exact fun z => nomatch z
  · trivial
  · trivial
  · trivial
  · rfl
  · intro w m
    have := hw.w w m
    unfold okW at this
    refine ⟨_, rfl, ?_, fun z => nomatch z⟩
    trivial
    rw [in_range_ok h.in_range, decide_eq_true (show 0 ≤ w ∧ w ≤ 9 by omega)]
    trivial
theorem is_eye_ok {T : Tab} (h : HChk T) {k : Nat} {eye : List (List Int)} {bands : Nat} (h1 : 1 ≤ bands) (h5 : bands ≤ 5) (n1 : 1 ≤ eye.length) (n3 : eye.length ≤ 3) (hw : ∀ ws ∈ eye, OkEye bands ws) : callF T (k + 3) i_is_eye [.tup (eye.map fun ws => .tup (ws.map .int))] = pure (.bl true) := by
  rw [callF_eq h.is_eye rfl]
  unfold f_is_eye B_is_eye
  trivial
  rw [List.length_map, decide_eq_true (show (1 : Int) ≤ (eye.length : Int) by omega)]
  trivial
  rw [decide_eq_true (show (eye.length : Int) ≤ 3 by omega)]
  trivial
  rw [comp_filter (fun ws : List Int => D.tup (ws.map .int)) (fun ws => D.tup (ws.map .int)) (fun _ => false) eye (as := [.tup (eye.map fun ws => .tup (ws.map .int))]) (bs := [.tup (eye.map fun ws => .tup (ws.map .int))]) ?_ ?_ ?_ ?_ ?_ ?_]
  · rw [filter_none]
    trivial
    rw [comp_filter (fun ws : List Int => D.tup (ws.map .int)) (fun ws => D.tup (ws.map .int)) (fun _ => false) eye (as := [.tup (eye.map fun ws => .tup (ws.map .int))]) (bs := [.tup (eye.map fun ws => .tup (ws.map .int))]) ?_ ?_ ?_ ?_ ?_ ?_]
    · rw [filter_none]
      trivial
    · exact fun z => nomatch z
    · trivial
    · trivial
    · trivial
    · rfl
    · intro ws m
      refine ⟨_, rfl, ?_, fun z => nomatch z⟩
      trivial
      obtain ⟨w0, r, rfl⟩ : ∃ w0 r, eye = w0 :: r := by
        cases eye with
        | nil => exact absurd n1 (by decide)
        | cons a b => exact ⟨a, b, rfl⟩
      trivial
      rw [List.length_map, List.length_map, (hw ws m).len, (hw w0 List.mem_cons_self).len]
      simp
  · exact fun z => nomatch z
  · trivial
  · trivial
  · trivial
  · rfl
  · intro ws m
    refine ⟨_, rfl, ?_, fun z => nomatch z⟩
    trivial
    rw [is_answer_ok h h1 h5 (hw ws m)]
    trivial
theorem check_eye_ok {T : Tab} (h : HChk T) {k : Nat} {eye : List (List Int)} {bands : Nat} (h1 : 1 ≤ bands) (h5 : bands ≤ 5) (n1 : 1 ≤ eye.length) (n3 : eye.length ≤ 3) (hw : ∀ ws ∈ eye, OkEye bands ws) : callF T (k + 4) i_check_eye [.tup (eye.map fun ws => .tup (ws.map .int))] = pure .non := by
  rw [callF_eq h.check_eye rfl]
  unfold f_check_eye B_check_eye
  trivial
  rw [is_eye_ok h h1 h5 n1 n3 hw]
  trivial
end EV

/-! K36: groups, and the law of them. -/
namespace EV
open PySem
local macro_rules | `(tactic| trivial) => `(tactic| simp only [pure_bind, bind_assoc, if_true, List.map_cons, List.map_nil, List.length_cons, List.length_nil, List.cons_append, List.nil_append, List.replicate_succ, List.replicate_zero, Nat.reduceAdd, Nat.reduceSub, Nat.reduceLeDiff, Int.reduceNe, List.isEmpty_nil, Bool.not_true, Bool.not_false, Bool.false_eq_true, if_false, z_run_ret, z_run_nx, z_run_thr, z_lft_pure, z_lft_raise, z_lftA_pure, z_lftA_raise, z_thenO_nx, z_thenO_ct, z_thenO_ret, z_thenO_thr, z_ex_skip, z_ex_seq, z_ex_cont, z_ex_pub, z_ex_set, z_ex_setOwn, z_ex_unpack, z_ex_par, z_ex_append, z_ex_extend, z_ex_setix, z_ex_expr, z_ex_ife, z_ex_ret, z_ex_retN, z_ex_raise, z_ex_aug, z_ev_var, z_ev_int, z_ev_bl, z_ev_non, z_ev_str, z_ev_glo, z_ev_tup, z_ev_lst, z_ev_bin, z_ev_neg, z_ev_not, z_ev_and, z_ev_or, z_ev_cmp, z_ev_chain, z_ev_ite, z_ev_ix, z_ev_sl, z_ev_call, z_ev_blt, z_ev_isi, z_ea_nil, z_ea_cons, z_ew_nil, z_ew_cons, z_ev_I, z_eo_f, z_eo_t, z_callM_cons, z_callM_nil, z_calm_pure, z_condM_nothing, z_clT_call, z_clT_glo, z_getV_zero, z_getV_succ, z_via_zero, z_via_own, z_via_succ, z_via_int, z_via_bl, z_via_non, z_via_str, z_via_glo, z_via_tup, z_via_lst, z_via_bin, z_via_neg, z_via_not, z_via_and, z_via_or, z_via_cmp, z_via_chain, z_via_ite, z_via_ix, z_via_sl, z_via_call, z_via_calli, z_via_blt, z_via_isi, z_via_comp, z_setV_zero, z_setV_succ, z_set_zero, z_set_succ, z_getL_own, z_getL_succ, z_putL_own, z_putL_succ, z_view_int, z_view_bl, z_view_non, z_view_str, z_view_tup, z_view_lst, z_view_scr, z_viewAll_nil, z_viewAll_cons, z_truth_non, z_truth_bl, z_truth_int, z_truth_tup, z_truth_lst, z_truth_str, z_add, z_sub, z_mul, z_fdiv, z_mod, z_addl, z_addt, z_cop_eq, z_cop_ne, z_cop_lt, z_cop_le, z_cop_gt, z_cop_ge, z_cop_in, z_cop_notIn, z_cop_is, z_cop_isNot, z_eqI, z_neI, z_index_lst, z_index_tup, z_at0, z_at1, z_len_lst, z_len_tup, z_len_scr, z_abs, z_int, z_intb, z_tuple_lst, z_tuple_tup, z_list_lst, z_list_tup, z_isTy_ii, z_isTy_bi, z_isTy_tt, z_walk_seq, z_items_lst, z_items_tup, z_walk_r1, z_walk_r2, z_walk_enum, z_zip_ll, z_zip_lt, z_zip_tl, z_zip_tt, z_bindT_one, z_wipe_nil, z_wipe_cons, z_setOwns_nil, z_setOwns_cons, z_start, z_bindL_nil, z_bindL_cons, z_bindT_many, z_endM_nothing])
/-- numbered -/
def en (R : List D) : List (Nat × D) := (List.range R.length).zip R
theorem enumD_en (R : List D) : enumD R = (en R).map fun z => .tup [.int (z.1 : Int), z.2] := by
  unfold enumD en
  rw [List.zip, List.map_zipWith]
theorem en_get {R : List D} {i : Nat} {z : Nat × D} (h : (en R)[i]? = some z) : z.1 = i ∧ R[i]? = some z.2 := by
  unfold en at h
  rw [List.getElem?_zip_eq_some] at h
  obtain ⟨h1, h2⟩ := h
  exact ⟨(range_get h1).1, h2⟩
theorem en_mem {R : List D} {z : Nat × D} (h : z ∈ en R) : R[z.1]? = some z.2 := by
  obtain ⟨i, hi⟩ := List.getElem?_of_mem h
  obtain ⟨h1, h2⟩ := en_get hi
  rw [h1]; exact h2
theorem cut_take {α : Type} (R : List α) (i : Nat) : cut R none (some (i : Int)) = R.take i := by
  unfold cut sEnd
  dsimp only
  rw [if_neg (by omega)]
  simp only [List.drop_zero, Nat.sub_zero, Int.toNat_natCast]
  by_cases h : i ≤ R.length
  · rw [Nat.min_eq_left h]
  · rw [Nat.min_eq_right (by omega), List.take_of_length_le (Nat.le_refl _), List.take_of_length_le (by omega)]
theorem asEnd_ok {i : Nat} (h : i ≤ 1000000) : asEnd (.int (i : Int)) = pure (some (i : Int)) := by
  show (if -mx ≤ (i : Int) ∧ (i : Int) ≤ mx then pure (some (i : Int)) else M.stuck) = _
  have e : mx = 4611686018427387904 := by decide
  rw [if_pos]
  rw [e]
  omega
theorem endM_var {j : Nat} {m : M D} : endM (.var j) m = (m >>= fun d => asEnd d) := rfl
theorem endM_bin {op : BOp} {a b : ME} {m : M D} : endM (.bin op a b) m = (m >>= fun d => asEnd d) := rfl
theorem slice_lst {ds : List D} {lo hi : Option Int} : slice (.lst ds) lo hi = pure (.lst (cut ds lo hi)) := rfl
/-- rows that may be compared -/
def PlainR (R : List D) : Prop := ∀ x ∈ R, plain 29 x = true ∧ plain 30 x = true
theorem plain_lst' {R : List D} (h : PlainR R) : plain 30 (.lst R) = true := by
  show R.all (plain 29) = true
  exact List.all_eq_true.mpr fun x m => (h x m).1
theorem PlainR.take {R : List D} (h : PlainR R) (i : Nat) : PlainR (R.take i) := fun x m => h x (List.mem_of_mem_take m)
def newB (R : List D) (z : Nat × D) : Bool := !((R.take z.1).any fun y => eqv y z.2)
theorem isIn_ok' {R : List D} {x : D} (h : PlainR R) (hx : plain 30 x = true) : isIn x (.lst R) = pure (R.any fun y => eqv y x) := by
  show (if plain 30 x && plain 30 (.lst R) then pure (R.any fun z => eqv z x) else M.stuck) = _
  rw [hx, plain_lst' h]
  rfl
theorem eqD_ok' {x y : D} (hx : plain 30 x = true) (hy : plain 30 y = true) : eqD x y = pure (.bl (eqv x y)) := by
  unfold eqD
  rw [hx, hy]
  rfl
def sameL (R : List D) (x : D) : List D := ((en R).filter fun z => eqv z.2 x).map fun z => .int (z.1 : Int)
def due (R : List D) : List D := ((en R).filter (newB R)).map fun z => .tup (sameL R z.2)
mutual
theorem eqv_refl : ∀ {d : D} {n : Nat}, plain n d = true → eqv d d = true
  | _, 0, h => by cases h
  | .non, _ + 1, _ => rfl
  | .bl a, _ + 1, _ => beq_self_eq_true a
  | .int a, _ + 1, _ => beq_self_eq_true a
  | .str a, _ + 1, _ => beq_self_eq_true a
  | .tup ds, _ + 1, h => eqvs_refl (show ds.all (plain _) = true from h)
  | .lst ds, _ + 1, h => eqvs_refl (show ds.all (plain _) = true from h)
  | .cell _, _ + 1, h => by cases h
  | .fn _, _ + 1, h => by cases h
  | .exc _, _ + 1, h => by cases h
  | .obj _, _ + 1, h => by cases h
  | .scr _, _ + 1, h => by cases h
theorem eqvs_refl : ∀ {ds : List D} {n : Nat}, ds.all (plain n) = true → eqvs ds ds = true
  | [], _, _ => rfl
  | d :: ds, n, h => by
    rw [List.all_cons, Bool.and_eq_true] at h
    show (eqv d d && eqvs ds ds) = true
    rw [eqv_refl h.1, eqvs_refl h.2]
    rfl
end
theorem due_plain (R : List D) : plain 30 (.lst (due R)) = true := by
  show (due R).all (plain 29) = true
  refine List.all_eq_true.mpr fun x m => ?_
  obtain ⟨z, _, rfl⟩ := List.mem_map.mp m
  show (sameL R z.2).all (plain 28) = true
  refine List.all_eq_true.mpr fun y hy => ?_
  obtain ⟨u, _, rfl⟩ := List.mem_map.mp hy
  rfl
/-! ### the program's groups -/
structure HGrp (T : Tab) : Prop extends HChk T where
  check_lights : T.fn i_check_lights = some f_check_lights
  check_surfaces : T.fn i_check_surfaces = some f_check_surfaces
  check_parting : T.fn i_check_parting = some f_check_parting
  looks : T.fn i_looks = some f_looks
  groups : T.fn i_groups = some f_groups
  most_s : T.glo 4 = some (.int 6)
  most_l : T.glo 5 = some (.int 4)
def eyeD (eye : List (List Int)) : D := .tup (eye.map fun ws => .tup (ws.map .int))
def rowsP (lss : List (List PI2)) : D := .tup (lss.map fun ls => .tup (ls.map pd))
def colD (eye : List (List Int)) (ls qs : List PI2) : D := .tup (eye.map fun ws => fr (ans 0 ws ls qs))
def rowD (eye : List (List Int)) (lss : List (List PI2)) (qs : List PI2) : D := .lst (lss.map fun ls => colD eye ls qs)
theorem rowD_plain {eye : List (List Int)} {lss : List (List PI2)} {qs : List PI2} (n : Nat) : plain (n + 4) (rowD eye lss qs) = true := by
  show (lss.map fun ls => colD eye ls qs).all (plain (n + 3)) = true
  refine List.all_eq_true.mpr fun x m => ?_
  obtain ⟨ls, _, rfl⟩ := List.mem_map.mp m
  show (eye.map fun ws => fr (ans 0 ws ls qs)).all (plain (n + 2)) = true
  refine List.all_eq_true.mpr fun x m => ?_
  obtain ⟨ws, _, rfl⟩ := List.mem_map.mp m
  rfl
theorem rows_plain {eye : List (List Int)} {lss sss : List (List PI2)} : PlainR (sss.map (rowD eye lss)) := fun x m => by
  obtain ⟨s, _, rfl⟩ := List.mem_map.mp m
  exact ⟨rowD_plain 25, rowD_plain 26⟩
theorem check_parting_ok {T : Tab} (h : HGrp T) {k : Nat} {eye : List (List Int)} {lss sss : List (List PI2)} {bands : Nat} (h1 : 1 ≤ bands) (h5 : bands ≤ 5) (n1 : 1 ≤ eye.length) (n3 : eye.length ≤ 3) (hw : ∀ ws ∈ eye, OkEye bands ws)
    (l1 : 1 ≤ lss.length) (l2 : lss.length ≤ 4) (hl : ∀ ls ∈ lss, ls.length = bands ∧ ∀ l ∈ ls, okF l) (s1 : 1 ≤ sss.length) (s2 : sss.length ≤ 6) (hs : ∀ ls ∈ sss, ls.length = bands ∧ ∀ l ∈ ls, okF l ∧ l.1 ≤ l.2) :
    callF T (k + 6) i_check_parting [eyeD eye, rowsP lss, rowsP sss] = pure .non := by
  obtain ⟨w0, r, rfl⟩ : ∃ w0 r, eye = w0 :: r := by
    cases eye with
    | nil => exact absurd n1 (by decide)
    | cons a b => exact ⟨a, b, rfl⟩
  have hl0 := (hw w0 List.mem_cons_self).len
  have ce := check_eye_ok h.toHChk (k := k + 1) h1 h5 n1 n3 hw
  rw [callF_eq h.check_parting rfl]
  unfold f_check_parting B_check_parting eyeD rowsP
  trivial
  rw [List.map_cons] at ce
  rw [ce]
  trivial
  rw [h.most_l]
  trivial
  rw [List.length_map, hl0, check_lights_ok h.toHChk h.check_lights h1 h5 l1 (by omega) hl]
  trivial
  rw [List.length_map, hl0, check_surfaces_ok h.toHChk h.check_surfaces h.most_s h1 h5 s1 s2 hs]
  trivial
theorem looks_ok {T : Tab} (h : HGrp T) {k : Nat} {eye : List (List Int)} {lss sss : List (List PI2)} {n : Nat} (z : ∀ ws ∈ eye, ∀ ls ∈ lss, ∀ qs ∈ sss, Sized n ws ls qs) :
    callF T (k + 7) i_looks [eyeD eye, rowsP lss, rowsP sss] = pure (.lst (sss.map (rowD eye lss))) := by
  rw [callF_eq h.looks rfl]
  unfold f_looks B_looks
  trivial
  rw [comp_map (fun qs : List PI2 => D.tup (qs.map pd)) (rowD eye lss) sss (as := [rowsP sss]) (bs := [rowsP sss]) ?_ ?_ ?_ ?_ ?_]
  · trivial
  · trivial
  · trivial
    rfl
  · rfl
  · rfl
  · intro qs hq
    refine ⟨_, rfl, ?_⟩
    trivial
    rw [comp_map (fun ls : List PI2 => D.tup (ls.map pd)) (fun ls => colD eye ls qs) lss (as := [rowsP lss]) (bs := [rowsP lss]) ?_ ?_ ?_ ?_ ?_]
    · rfl
    · trivial
    · rfl
    · rfl
    · rfl
    · intro ls hl
      refine ⟨_, rfl, ?_⟩
      trivial
      exact color_ok h.toHCol fun ws hw => z ws hw ls hl qs hq
theorem groups_ok {T : Tab} (h : HGrp T) {k : Nat} {eye : List (List Int)} {lss sss : List (List PI2)} {bands n : Nat} (h1 : 1 ≤ bands) (h5 : bands ≤ 5) (n1 : 1 ≤ eye.length) (n3 : eye.length ≤ 3) (hw : ∀ ws ∈ eye, OkEye bands ws)
    (l1 : 1 ≤ lss.length) (l2 : lss.length ≤ 4) (hl : ∀ ls ∈ lss, ls.length = bands ∧ ∀ l ∈ ls, okF l) (s1 : 1 ≤ sss.length) (s2 : sss.length ≤ 6) (hs : ∀ ls ∈ sss, ls.length = bands ∧ ∀ l ∈ ls, okF l ∧ l.1 ≤ l.2) (z : ∀ ws ∈ eye, ∀ ls ∈ lss, ∀ qs ∈ sss, Sized n ws ls qs) :
    callF T (k + 8) i_groups [eyeD eye, rowsP lss, rowsP sss] = pure (.lst (due (sss.map (rowD eye lss)))) := by
  have hp := rows_plain (eye := eye) (lss := lss) (sss := sss)
  have hlen : (sss.map (rowD eye lss)).length ≤ 6 := by rw [List.length_map]; exact s2
  rw [callF_eq h.groups rfl]
  unfold f_groups B_groups
  trivial
  rw [check_parting_ok h h1 h5 n1 n3 hw l1 l2 hl s1 s2 hs]
  trivial
  rw [looks_ok h z]
  generalize hR : sss.map (rowD eye lss) = R at hp hlen
  trivial
  rw [comp_filter (fun z : Nat × D => .tup [.int (z.1 : Int), z.2]) (fun z => .int (z.1 : Int)) (newB R) (en R) (as := [.lst R]) (bs := [.lst R]) ?_ ?_ ?_ ?_ ?_ ?_]
  · trivial
    rw [comp_map (fun z : Nat × D => .int (z.1 : Int)) (fun z => .tup (sameL R z.2)) ((en R).filter (newB R)) (as := [.lst (((en R).filter (newB R)).map fun z => .int (z.1 : Int))]) (bs := [.lst (((en R).filter (newB R)).map fun z => .int (z.1 : Int))]) ?_ ?_ ?_ ?_ ?_]
    · trivial
      rfl
    · trivial
    · trivial
    · trivial
    · rfl
    · intro u hu
      have hu' := en_mem (List.mem_filter.mp hu).1
      have hux : plain 30 u.2 = true := (hp u.2 (List.mem_of_getElem? hu')).2
      refine ⟨_, rfl, ?_⟩
      trivial
      rw [comp_filter (fun z : Nat × D => .tup [.int (z.1 : Int), z.2]) (fun z => .int (z.1 : Int)) (fun z => eqv z.2 u.2) (en R) (as := [.lst R]) (bs := [.lst R]) ?_ ?_ ?_ ?_ ?_ ?_]
      · rfl
      · exact fun z => nomatch z
      · trivial
      · trivial
      · trivial
        rw [enumD_en]
      · rfl
      · intro v hv
        have hv' := en_mem hv
        have hvx : plain 30 v.2 = true := (hp v.2 (List.mem_of_getElem? hv')).2
        have view_v : view v.2 = pure v.2 := by
          cases hd : v.2 <;> first | rfl | (rw [hd] at hvx; cases hvx)
        have view_u : view u.2 = pure u.2 := by
          cases hd : u.2 <;> first | rfl | (rw [hd] at hux; cases hux)
        refine ⟨_, rfl, ?_, fun _ => rfl⟩
        trivial
        rw [atI_nat hu']
        trivial
        rw [view_v, view_u]
        trivial
        rw [eqD_ok' hvx hux]
        trivial
  · exact fun z => nomatch z
  · trivial
  · trivial
  · trivial
    rw [enumD_en]
  · rfl
  · intro v hv
    have hv' := en_mem hv
    have hvl := (List.getElem?_eq_some_iff.mp hv').1
    have hvx : plain 30 v.2 = true := (hp v.2 (List.mem_of_getElem? hv')).2
    have view_v : view v.2 = pure v.2 := by
      cases hd : v.2 <;> first | rfl | (rw [hd] at hvx; cases hvx)
    refine ⟨_, rfl, ?_, fun _ => rfl⟩
    trivial
    rw [endM_var]
    trivial
    rw [asEnd_ok (by omega)]
    trivial
    rw [slice_lst, cut_take]
    trivial
    rw [view_v]
    trivial
    rw [isIn_ok' (hp.take _) hvx]
    trivial
    rfl
/-! ### the law -/
structure HK36 (T : Tab) : Prop where
  grp : HGrp T
  draw : HDraw T
  own : HLaw T
  eye : T.fn i_l_eye = some f_l_eye
  light : T.fn i_l_light = some f_l_light
  lights : T.fn i_l_lights = some f_l_lights
  surface : T.fn i_l_surface = some f_l_surface
  law : T.fn i_law_k36 = some f_law_k36
theorem tabL_okF : ∀ l ∈ tabL, okF l := by decide
theorem tabS_okF : ∀ l ∈ tabS, okF l ∧ l.1 ≤ l.2 := by decide
theorem tabL_okL : ∀ l ∈ tabL, l.1.natAbs < 2 ^ 4 ∧ l.2.natAbs < 2 ^ 4 ∧ 0 < l.2 := by decide
theorem tabS_okL : ∀ l ∈ tabS, l.1.natAbs < 2 ^ 4 ∧ l.2.natAbs < 2 ^ 4 ∧ 0 < l.2 := by decide
theorem sizedL_of {bands : Nat} {ws : List Int} {ls qs : List PI2} (hb : bands ≤ 5) (hw : OkEye bands ws) (hl : ∀ l ∈ ls, l ∈ tabL) (hq : ∀ l ∈ qs, l ∈ tabS) : SizedL 4 ws ls qs := by
  refine ⟨fun w m => ?_, fun l m => ?_, fun l m => ?_, by rw [hw.len]; exact hb, by decide, by decide⟩
  · have := hw.w w m
    unfold okW at this
    omega
  · obtain ⟨a, b, c⟩ := tabL_okL l (hl l m)
    exact ⟨⟨a, b⟩, c⟩
  · obtain ⟨a, b, c⟩ := tabS_okL l (hq l m)
    exact ⟨⟨a, b⟩, c⟩
theorem k36_ok {T : Tab} (h : HK36 T) {k : Nat} {ns : List Int} {B : Nat} (hB : ∀ z ∈ ns, z.natAbs < 2 ^ B) (hB2 : B ≤ 100000000) (hB3 : 31 ≤ B) : callF T (k + 9) i_law_k36 [.scr ns] = pure (.bl true) := by
  obtain ⟨ds, d1, d2, d3⟩ := l_row_ok h.draw (k := k + 6) (at_ := 4) hB hB2 hB3
  have hd : Draws ds := ⟨d1, d2⟩
  have get : ∀ j : Int, 0 ≤ j → j < 60 → ∃ d, atI (ds.map D.int) j = pure (.int d) := fun j h0 h1 => by
    obtain ⟨d, _, e⟩ := at_int (ds := ds) h0 (by rw [d1]; exact h1)
    exact ⟨d, e⟩
  obtain ⟨x50, e50⟩ := get 50 (by decide) (by decide)
  obtain ⟨x51, e51⟩ := get 51 (by decide) (by decide)
  obtain ⟨x52, e52⟩ := get 52 (by decide) (by decide)
  obtain ⟨b, hb, eb⟩ := fmod_nat' x50 (b := 3) (by decide)
  obtain ⟨m, hm, em⟩ := fmod_nat' x51 (b := 4) (by decide)
  obtain ⟨c, hc, ec⟩ := fmod_nat' x52 (b := 2) (by decide)
  obtain ⟨eye, y1, y2, y3, y4⟩ := l_eye_ok h.eye (k := k + 7) (bands := 1 + b) (most := 2) (a := 0) hd (by omega) (by omega) (by decide) (by decide)
  obtain ⟨lss, l1, l2, l3, l4⟩ := l_lights_ok h.lights h.light (k := k + 6) (bands := 1 + b) (most := 3) (a := 13) hd (by decide) (by omega) (by decide) (by decide)
  have eb' : x50.fmod 3 = (b : Int) := eb
  have em' : x51.fmod 4 = (m : Int) := em
  have ec' : x52.fmod 2 = (c : Int) := ec
  have d3' : callF T (k + 8) i_l_row [.scr ns, .int 4] = pure (.lst (ds.map .int)) := d3
  have y4' : callF T (k + 8) i_l_eye [.lst (ds.map .int), .int 0, .int (1 + (b : Int)), .int 2] = pure (eyeD eye) := y4
  have l4' : callF T (k + 8) i_l_lights [.lst (ds.map .int), .int 13, .int (1 + (b : Int)), .int 3] = pure (rowsP lss) := l4
  rw [callF_eq h.law rfl]
  unfold f_law_k36 B_law_k36
  trivial
  rw [d3']
  trivial
  rw [e50]
  trivial
  rw [eb']
  rw [y4']
  trivial
  rw [l4']
  trivial
  obtain ⟨r, r1, r2, r3⟩ := comp_ex (X := clT T (k + 8)) (q := .range1) (es := .acons (.bin .add (.int 1) (.bin .mod (.ix (.var 1) (.int 51)) (.int 4))) .anil) (tg := .one 10) (own := [10])
    (el := .call 53 (.acons (.var 1) (.acons (.bin .mul (.int 7) (.var 10)) (.acons (.var 2) .anil)))) (ρ := [.val (.scr ns), .val (.lst (ds.map .int)), .val (.int (1 + (b : Int))), .none, .none, .none, .val (eyeD eye), .val (rowsP lss), .none, .none, .none, .none, .none, .none, .none])
    (fun i : Nat => D.int (i : Int)) (fun _ y => ∃ ls : List PI2, (ls.length = 1 + b ∧ ∀ l ∈ ls, l ∈ tabS) ∧ y = .tup (ls.map pd)) (List.range (1 + m)) (as := [.int ((1 + m : Nat) : Int)]) (bs := [.int ((1 + m : Nat) : Int)])
    (by
      trivial
      rw [e51]
      trivial
      rw [em']
      rfl) (by trivial) (by trivial; exact rangeM_ok (by omega)) rfl (fun z hz => by
      have hz' : z < 1 + m := List.mem_range.mp hz
      obtain ⟨ls, q1, q2, q3⟩ := l_surface_ok h.surface (k := k + 7) (bands := 1 + b) (a := 7 * (z : Int)) hd (by omega) (by omega)
      refine ⟨_, _, rfl, ?_, ls, ⟨q1, q2⟩, rfl⟩
      trivial
      rw [mulOk_of (a := 3) (b := 12) (by decide) (by omega) (by decide)]
      trivial
      exact q3)
  obtain ⟨sss, e1, e2⟩ := lift_list (f := fun ls : List PI2 => D.tup (ls.map pd)) (P := fun ls => ls.length = 1 + b ∧ ∀ l ∈ ls, l ∈ tabS) (ys := r.map (·.2)) fun y hy => by
    obtain ⟨p, hp, rfl⟩ := List.mem_map.mp hy
    exact r2 p hp
  have hl : sss.length = 1 + m := by
    have h1 := congrArg List.length e1
    have h2 := congrArg List.length r1
    simp only [List.length_map, List.length_range] at h1 h2
    omega
  rw [r3, e1]
  trivial
  rw [e52]
  trivial
  rw [ec', endM_bin]
  trivial
  rw [asEnd_ok (by omega)]
  trivial
  rw [slice_lst, cut_take]
  trivial
  rw [if_pos (by
    rw [List.length_map, List.length_take, List.length_map, hl]
    have e : lim = 16777216 := by decide
    omega)]
  trivial
  rw [← List.map_take, ← List.map_append]
  obtain ⟨tts, ht⟩ : ∃ tts, tts = sss ++ sss.take c := ⟨_, rfl⟩
  rw [← ht]
  have t1 : 1 ≤ tts.length := by rw [ht, List.length_append]; omega
  have t2 : tts.length ≤ 6 := by rw [ht, List.length_append, List.length_take]; omega
  have t3 : ∀ ls ∈ tts, ls.length = 1 + b ∧ ∀ l ∈ ls, l ∈ tabS := fun ls hm => by
    rw [ht] at hm
    rcases List.mem_append.mp hm with hm | hm
    · exact e2 ls hm
    · exact e2 ls (List.mem_of_mem_take hm)
  have sz : ∀ ws ∈ eye, ∀ ls ∈ lss, ∀ qs ∈ tts, SizedL 4 ws ls qs := fun ws hw ls hls qs hqs => sizedL_of (by omega) (y3 ws hw) (l3 ls hls).2 (t3 qs hqs).2
  have fold : D.tup (tts.map fun ls => .tup (ls.map pd)) = rowsP tts := rfl
  rw [fold]
  rw [comp_map (fun qs : List PI2 => D.tup (qs.map pd)) (rowD eye lss) tts (as := [rowsP tts]) (bs := [rowsP tts]) ?_ ?_ ?_ ?_ ?_]
  · trivial
    have hp := rows_plain (eye := eye) (lss := lss) (sss := tts)
    have hlen : (tts.map (rowD eye lss)).length ≤ 6 := by rw [List.length_map]; exact t2
    have gr := groups_ok h.grp (k := k) (eye := eye) (lss := lss) (sss := tts) (bands := 1 + b) (n := 4) (by omega) (by omega) y1 (by omega) y3 l1 (by omega) (fun ls hm => ⟨(l3 ls hm).1, fun l hl => tabL_okF l ((l3 ls hm).2 l hl)⟩) t1 t2 (fun ls hm => ⟨(t3 ls hm).1, fun l hl => tabS_okF l ((t3 ls hm).2 l hl)⟩) (fun ws hw ls hls qs hqs => (sz ws hw ls hls qs hqs).sized)
    generalize hR : tts.map (rowD eye lss) = R at hp hlen gr
    obtain ⟨ρ', ⟨s8, s9, f1⟩, f2⟩ := for_map (X := clT T (k + 8)) (F := T.F) (q := .enum) (es := .acons (.var 4) .anil) (tg := .many [8, 9])
      (a := .seq (.ife (.cmp .notIn (.var 9) (.sl (.var 4) .nothing (.var 8))) (.seq (.append 5 (.blt .tuple (.acons (.comp .enum (.acons (.var 4) .anil) (.many [13, 14]) (.cmp .eq (.var 14) (.var 9)) (.var 13) [13, 14]) .anil))) .skip) .skip) .skip)
      (ρ := [.val (.scr ns), .val (.lst (ds.map .int)), .val (.int (1 + (b : Int))), .val (rowsP tts), .val (.lst R), .own [], .val (eyeD eye), .val (rowsP lss), .none, .none, .none, .none, .none, .none, .none]) (fun z : Nat × D => .tup [.int (z.1 : Int), z.2])
      (fun i ρ => ∃ s8 s9 : Sl, ρ = [.val (.scr ns), .val (.lst (ds.map .int)), .val (.int (1 + (b : Int))), .val (rowsP tts), .val (.lst R), .own ((((en R).take i).filter (newB R)).map fun z => .tup (sameL R z.2)), .val (eyeD eye), .val (rowsP lss), s8, s9, .none, .none, .none, .none, .none]) (en R) (as := [.lst R]) (bs := [.lst R])
      (by trivial) (by trivial) (by trivial; rw [enumD_en]) rfl ⟨.none, .none, rfl⟩ (by
        rintro i v ρ hi ⟨s8, s9, rfl⟩
        obtain ⟨v1, v2⟩ := en_get hi
        have hvl := (List.getElem?_eq_some_iff.mp v2).1
        have hvx : plain 30 v.2 = true := (hp v.2 (List.mem_of_getElem? v2)).2
        have view_v : view v.2 = pure v.2 := by
          cases hd : v.2 <;> first | rfl | (rw [hd] at hvx; cases hvx)
        have htk : (en R).take (i + 1) = (en R).take i ++ [v] := by
          rw [List.take_add_one, hi]; rfl
        refine ⟨_, [.val (.scr ns), .val (.lst (ds.map .int)), .val (.int (1 + (b : Int))), .val (rowsP tts), .val (.lst R), .own ((((en R).take (i + 1)).filter (newB R)).map fun z => .tup (sameL R z.2)), .val (eyeD eye), .val (rowsP lss), .val (.int (v.1 : Int)), .val v.2, .none, .none, .none, .none, .none], rfl, .inl ?_, ⟨_, _, rfl⟩⟩
        rw [htk, List.filter_append]
        trivial
        rw [endM_var]
        trivial
        rw [asEnd_ok (by omega)]
        trivial
        rw [slice_lst, cut_take]
        trivial
        rw [view_v]
        trivial
        rw [isIn_ok' (hp.take _) hvx]
        trivial
        cases hnb : newB R v with
        | false =>
          have : ((R.take v.1).any fun y => eqv y v.2) = true := by
            unfold newB at hnb
            simpa using hnb
          rw [this]
          trivial
          rw [List.filter_cons_of_neg (by rw [hnb]; exact Bool.false_ne_true), List.filter_nil, List.append_nil]
        | true =>
          have : ((R.take v.1).any fun y => eqv y v.2) = false := by
            unfold newB at hnb
            simpa using hnb
          rw [this]
          trivial
          rw [comp_filter (fun z : Nat × D => .tup [.int (z.1 : Int), z.2]) (fun z => .int (z.1 : Int)) (fun z => eqv z.2 v.2) (en R) (as := [.lst R]) (bs := [.lst R]) ?_ ?_ ?_ ?_ ?_ ?_]
          · trivial
            rw [if_pos (by
              have e : lim = 16777216 := by decide
              rw [List.length_map, e]
              have h1 := List.length_filter_le (newB R) ((en R).take i)
              have h2 : ((en R).take i).length ≤ R.length := by
                rw [List.length_take]
                unfold en
                rw [List.length_zip, List.length_range]
                omega
              omega)]
            trivial
            rw [List.filter_cons_of_pos hnb, List.filter_nil, List.map_append]
            rfl
          · exact fun z => nomatch z
          · trivial
          · trivial
          · trivial
            rw [enumD_en]
          · rfl
          · intro u hu
            have hu' := en_mem hu
            have hux : plain 30 u.2 = true := (hp u.2 (List.mem_of_getElem? hu')).2
            have view_u : view u.2 = pure u.2 := by
              cases hd : u.2 <;> first | rfl | (rw [hd] at hux; cases hux)
            refine ⟨_, rfl, ?_, fun _ => rfl⟩
            trivial
            rw [view_u, view_v]
            trivial
            rw [eqD_ok' hux hvx]
            trivial)
    have hlen2 : (en R).length = R.length := by
      unfold en
      rw [List.length_zip, List.length_range]
      omega
    rw [f2, f1, List.take_length]
    trivial
    rw [gr]
    trivial
    have hdue : (((en R).filter (newB R)).map fun z => D.tup (sameL R z.2)) = due R := rfl
    rw [hdue, eqD_ok' (due_plain R) (due_plain R), eqv_refl (due_plain R)]
    trivial
  · trivial
  · trivial
    rfl
  · rfl
  · rfl
  · intro qs hq
    refine ⟨_, rfl, ?_⟩
    trivial
    rw [comp_map (fun ls : List PI2 => D.tup (ls.map pd)) (fun ls => colD eye ls qs) lss (as := [rowsP lss]) (bs := [rowsP lss]) ?_ ?_ ?_ ?_ ?_]
    · rfl
    · trivial
    · rfl
    · rfl
    · rfl
    · intro ls hls
      refine ⟨_, rfl, ?_⟩
      trivial
      exact l_color_ok h.own fun ws hw => sz ws hw ls hls qs hq
end EV

/-! EvBits: bits of a script's numbers. -/
namespace EV
open PySem
theorem bits_lt {z : Int} {n : Nat} (h : Builtin.Int.intBits z ≤ n) : z.natAbs < 2 ^ n := by
  unfold Builtin.Int.intBits at h
  by_cases h0 : z.natAbs = 0
  · rw [h0]; exact Nat.two_pow_pos n
  · refine (Nat.log2_lt h0).mp ?_
    split at h
    · rename_i e
      simp at e
      omega
    · omega
end EV

/-! K36run: the law's own table. -/
namespace EV
open PySem
theorem hk36 : HK36 LD.tab where
  grp := { gcd := rfl, fraction := rfl, plus := rfl, times := rfl, F := by decide, inner := rfl, whole := rfl, lit := rfl, answer := rfl, color := rfl, in_range := rfl, is_fraction := rfl, is_light := rfl, is_light_for := rfl, is_surface := rfl, is_surface_for := rfl, is_answer := rfl, is_eye := rfl, check_eye := rfl, limit := rfl, bands := rfl, check_lights := rfl, check_surfaces := rfl, check_parting := rfl, looks := rfl, groups := rfl, most_s := rfl, most_l := rfl }
  draw := { cell := rfl, row := rfl }
  own := { part := rfl, add := rfl, mul := rfl, dot := rfl, answer := rfl, color := rfl, F := by decide }
  eye := rfl
  light := rfl
  lights := rfl
  surface := rfl
  law := rfl
theorem law_run : ∀ ns : List Int, ns.length ≤ 63 → (∀ z ∈ ns, PySem.Builtin.Int.intBits z ≤ 1048576) → ∃ S, callF LD.tab 13 i_law_k36 [.scr ns] [] = .ok (.bl true) S := by
  intro ns _ hb
  have e := k36_ok hk36 (k := 4) (ns := ns) (B := 1048576) (fun z m => bits_lt (hb z m)) (by decide) (by decide)
  refine ⟨[], ?_⟩
  show callF LD.tab (4 + 9) _ _ _ = _
  rw [e]
  rfl
end EV


namespace EV
open PySem PySem.Spec PyProof.Rows L2
abbrev PW : PySem.Program := PySem.Challenge.pw_underlights_k36_groups
def dOf : PySem.Stmt → Option He.DefD
  | .FunctionDef n a b _ _ _ sc _ _ _ => some ⟨(n, none), n, n, a, b, sc, [], []⟩
  | _ => none
def ds : List He.DefD := PW.main.body.filterMap dOf
theorem ldok : LD.ok (fun _ => "") ds = true := by decide +kernel
def fa : List He.Fa := LD.fa
abbrev R : PySem.W.OpenRow := PySem.W.OpenLaw.row PySem.Challenge.rw_underlights_k36_groups
abbrev hk : PySem.W.Hook := He.hookD 4 fa ds
def ob (s : PySem.W.SharedT) : He.AlD := He.obsDG 4 fa ds (HandSHeadRun.getT s)
theorem ob_eq (s : PySem.W.SharedT) : ob s = hk.obs s.abs := He.obsDG_eq (HandSHeadRun.getT_eq s)
def loose : List Str := (["LIMIT", "gcd", "in_range", "fraction", "is_fraction", "plus", "times", "inner", "whole", "LightError", "InvalidEye", "InvalidLights", "InvalidSurfaces", "MOST_BANDS", "is_light", "is_light_for", "check_lights", "MOST_SURFACES", "is_surface", "is_surface_for", "check_surfaces", "is_answer", "is_eye", "check_eye", "lit", "answer_of", "color_of", "MOST_LIGHTS", "check_parting", "looks"] : List Str) ++ (["groups", "_law_cell", "_law_row", "_law_part", "_law_add", "_law_mul", "_law_dot", "_law_eye", "_law_light", "_law_surface", "_law_answer", "_law_color", "_law_lights"] : List Str)
theorem headrun (w : World) : HandSHeadRun.RunEq R (PySem.W.view R.prog [49]) hk ob 20000 loose w := by
  intro os
  kernel_rfl
end EV
open PySem PySem.W PySem.Calls PyProof.Rows
theorem PySem.Challenge.cw_underlights_k36_groups_holds : PySem.Challenge.rw_underlights_k36_groups.Holds := by
  w_on; o_law
  refine HandSHeadRun.head_any (r := OpenLaw.row PySem.Challenge.rw_underlights_k36_groups) (q := view (OpenLaw.row PySem.Challenge.rw_underlights_k36_groups).prog [49]) (H := EV.hk) (ob := EV.ob) (M := 20000) (loose := EV.loose) (d := HandSHeadRun.topDef (OpenLaw.row PySem.Challenge.rw_underlights_k36_groups).prog 49) (kwd := []) EV.ob_eq
    (by kernel_rfl) (fun s => by kernel_rfl) EV.headrun (by kernel_rfl) (by kernel_rfl) (by kernel_rfl) (by rfl) (by first | assumption | decide +kernel) (by decide +kernel) ⟨rfl, rfl, rfl, rfl, rfl, by decide +kernel⟩ ?hw ?hc
  case hw => w_witness2
  case hc =>
    exact EV.law_end (l := PySem.Challenge.rw_underlights_k36_groups) (n := 63) (k := 12) (f0 := EV.i_law_k36) (L := EV.LD) (xn := fun _ => "") (ds := EV.ds) (fa := EV.fa) (e0 := ⟨EV.i_law_k36, "law", EV.N_law_k36, EV.f_law_k36⟩) rfl (by decide) (by kernel_rfl) ⟨rfl, by decide, by decide⟩ (fun f h => h) EV.ldok (by rfl) (by kernel_rfl) rfl (fun w h y => y) EV.law_run
