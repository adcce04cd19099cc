import PyProof.Rows.All
import Wide.All
import OpenK.AllK
import Wide.FinOn
import KE.KStateDown
import Lean
import KE.SortData
import KE.DataMinMax
import KE.DataEq
import HandS.ForMost
import HandS.Sort
import HandS.SortInts
import HandS.Conv
import HandS.Style
import HandS.Flow
import HandS.IsInst
import HandS.NoneIn
import HandS.TupAny
import HandS.TupMul
import HandS.Zip
import HandS.Deep
import HandS.StrMore
import HandS.RaiseMore
import HandS.Defaults
import HandS.Wide
import HandS.Codes
import HandS.Head0
import HandS.Head1
import HandS.Head2
import HandS.HeadEnd
import HandS.HeadHook1
import HandS.HeadHook2
import HandS.SetFor
import HandS.Strs
import HandS.Words
import PySem.Challenge.RW_wickerwork_k80_whole_rounds_that_hold
section
/-! The plain side: data, draws, and what each construct gives, with no heap and no program in sight. -/
namespace WK

/-- data; cup: the one thing that the draws change -/
inductive D where
  | non
  | bl (b : Bool)
  | int (i : Int)
  | str (s : List Nat)
  | tup (xs : List D)
  | lst (xs : List D)
  | cup
  | scr
  deriving Inhabited

/-- a value, no value (nothing is promised then), or a draw below n -/
inductive M (α : Type) where
  | ret (a : α)
  | bad
  | draw (n : Nat) (k : Nat → M α)

namespace M
def bind {α β : Type} : M α → (α → M β) → M β
  | .ret a, f => f a
  | .bad, _ => .bad
  | .draw n k, f => .draw n fun i => bind (k i) f
/-- whatever is drawn: a value comes, and P holds of it -/
def All {α : Type} (P : α → Prop) : M α → Prop
  | .ret a => P a
  | .bad => False
  | .draw n k => 0 < n ∧ ∀ i, i < n → All P (k i)
theorem all_bind {α β : Type} {P : β → Prop} {f : α → M β} : ∀ {m : M α}, (m.bind f).All P ↔ m.All fun a => (f a).All P
  | .ret _ => Iff.rfl
  | .bad => Iff.rfl
  | .draw n k => by
    show (0 < n ∧ ∀ i, i < n → ((k i).bind f).All P) ↔ (0 < n ∧ ∀ i, i < n → (k i).All fun a => (f a).All P)
    exact and_congr Iff.rfl (forall_congr' fun i => imp_congr Iff.rfl all_bind)
theorem All.mono {α : Type} {P Q : α → Prop} (h : ∀ a, P a → Q a) : ∀ {m : M α}, m.All P → m.All Q
  | .ret _, q => h _ q
  | .bad, q => q
  | .draw _ _, q => ⟨q.1, fun i hi => All.mono h (q.2 i hi)⟩
theorem All.bind {α β : Type} {P : α → Prop} {Q : β → Prop} {m : M α} {f : α → M β} (h : m.All P) (k : ∀ a, P a → (f a).All Q) : (m.bind f).All Q :=
  all_bind.mpr (h.mono k)
theorem bind_assoc {α β γ : Type} {f : α → M β} {g : β → M γ} : ∀ {m : M α}, (m.bind f).bind g = m.bind fun a => (f a).bind g
  | .ret _ => rfl
  | .bad => rfl
  | .draw n k => by
    show M.draw n (fun i => ((k i).bind f).bind g) = M.draw n fun i => (k i).bind fun a => (f a).bind g
    exact congrArg _ (funext fun i => bind_assoc)
theorem bind_ret {α : Type} : ∀ {m : M α}, m.bind .ret = m
  | .ret _ => rfl
  | .bad => rfl
  | .draw n _ => congrArg (M.draw n) (funext fun _ => bind_ret)
@[simp] theorem ret_bind {α β : Type} (a : α) (f : α → M β) : (M.ret a).bind f = f a := rfl
@[simp] theorem bad_bind {α β : Type} (f : α → M β) : (M.bad : M α).bind f = .bad := rfl
@[simp] theorem draw_bind {α β : Type} (n : Nat) (k : Nat → M α) (f : α → M β) : (M.draw n k).bind f = .draw n fun i => (k i).bind f := rfl
@[simp] theorem all_ret {α : Type} (P : α → Prop) (a : α) : (M.ret a).All P = P a := rfl
@[simp] theorem all_bad {α : Type} (P : α → Prop) : (M.bad : M α).All P = False := rfl
theorem all_draw {α : Type} (P : α → Prop) (n : Nat) (k : Nat → M α) : (M.draw n k).All P = (0 < n ∧ ∀ i, i < n → (k i).All P) := rfl
end M

def sizeMax : Nat := 16000000

/-- each item in turn -/
def mapM {α β : Type} (f : α → M β) : List α → M (List β)
  | [] => .ret []
  | x :: xs => (f x).bind fun y => (mapM f xs).bind fun ys => .ret (y :: ys)
theorem mapM_ret {α β : Type} {f : α → M β} {g : α → β} : ∀ {xs : List α}, (∀ x, x ∈ xs → f x = .ret (g x)) → mapM f xs = .ret (xs.map g)
  | [], _ => rfl
  | x :: xs, h => by
    show (f x).bind _ = _
    rw [h x List.mem_cons_self, M.ret_bind, mapM_ret fun y hy => h y (List.mem_cons_of_mem _ hy)]
    rfl

/-! ### names -/
/-- a name: without a value; with one that nobody changes; with a list of its own -/
inductive Sl where
  | no
  | fz (d : D)
  | ow (xs : List D)
abbrev Ev := List Sl
abbrev FE := Ev → M D
abbrev FL := Ev → M (List D)
inductive Fl where
  | nx (ρ : Ev)
  | rt (d : D)
  | bk (ρ : Ev)
  | ct (ρ : Ev)
abbrev FS := Ev → M Fl
/-- a target: x stored -/
abbrev FG := D → Ev → Option Ev

def fVar (i : Nat) : FE := fun ρ => match ρ[i]? with
  | some (.fz d) => .ret d
  | _ => .bad
/-- a name that is only looked at -/
def fBor (i : Nat) : FE := fun ρ => match ρ[i]? with
  | some (.fz d) => .ret d
  | some (.ow xs) => .ret (.lst xs)
  | _ => .bad
def fC (d : D) : FE := fun _ => .ret d
def fUn (g : D → M D) (f : FE) : FE := fun ρ => (f ρ).bind g
def fOp (g : D → D → M D) (f1 f2 : FE) : FE := fun ρ => (f1 ρ).bind fun a => (f2 ρ).bind fun b => g a b
/-- by a truth value -/
def onB {α : Type} (d : D) (x y : M α) : M α := match d with
  | .bl true => x
  | .bl false => y
  | _ => .bad
def fIf (c f g : FE) : FE := fun ρ => (c ρ).bind fun b => onB b (f ρ) (g ρ)
def fAnd (f g : FE) : FE := fun ρ => (f ρ).bind fun b => onB b (g ρ) (.ret (.bl false))
def fOr (f g : FE) : FE := fun ρ => (f ρ).bind fun b => onB b (.ret (.bl true)) (g ρ)
def gNot (d : D) : M D := onB d (.ret (.bl false)) (.ret (.bl true))
def fChain (g g' : D → D → M D) (f1 f2 f3 : FE) : FE := fun ρ => (f1 ρ).bind fun a => (f2 ρ).bind fun b => (g a b).bind fun c => onB c ((f3 ρ).bind fun e => g' b e) (.ret (.bl false))
def fNil : FL := fun _ => .ret []
def fCons (f : FE) (g : FL) : FL := fun ρ => (f ρ).bind fun x => (g ρ).bind fun xs => .ret (x :: xs)
/-- a list is not too long -/
def fit (n : Nat) (m : M D) : M D := if n ≤ sizeMax then m else .bad
def gTup (xs : List D) : M D := fit xs.length (.ret (.tup xs))
def gLst (xs : List D) : M D := fit xs.length (.ret (.lst xs))
def fArgs (g : List D → M D) (fs : FL) : FE := fun ρ => (fs ρ).bind g
def wipe (ρ : Ev) : List Nat → Ev
  | [] => ρ
  | i :: vs => (wipe ρ vs).set i .no
/-- [elt for tg in it if test] -/
def fLc (it : FL) (tg : FG) (test : FE) (elt : FE) (vs : List Nat) : FE := fun ρ => (it ρ).bind fun xs => if xs.length < sizeMax then
    (mapM (fun x => match tg x (wipe ρ vs) with
      | some ρ2 => (test ρ2).bind fun b => onB b ((elt ρ2).bind fun d => .ret [d]) (.ret [])
      | none => .bad) xs).bind fun yss => .ret (.lst yss.flatten)
  else .bad

def gtName (i : Nat) : FG := fun x ρ => if i < ρ.length then some (ρ.set i (.fz x)) else none
def gtSeq : List FG → List D → Ev → Option Ev
  | [], [], ρ => some ρ
  | g :: gs, x :: xs, ρ => match g x ρ with
    | some ρ' => gtSeq gs xs ρ'
    | none => none
  | _, _, _ => none
def gtTup (gs : List FG) : FG := fun x ρ => match x with
  | .tup xs => gtSeq gs xs ρ
  | .lst xs => gtSeq gs xs ρ
  | _ => none

/-! ### statements -/
def sNil : FS := fun ρ => .ret (.nx ρ)
def sSeq (s t : FS) : FS := fun ρ => (s ρ).bind fun fl => match fl with
  | .nx ρ' => t ρ'
  | fl => .ret fl
def sAsg (f : FE) (g : FG) : FS := fun ρ => (f ρ).bind fun x => match g x ρ with
  | some ρ' => .ret (.nx ρ')
  | none => .bad
/-- a new list, given to a name that will change it -/
def sOwn (i : Nat) (f : FE) : FS := fun ρ => (f ρ).bind fun x => match x with
  | .lst xs => if i < ρ.length then .ret (.nx (ρ.set i (.ow xs))) else .bad
  | _ => .bad
/-- a, b = x, y -/
def sPar (i j : Nat) (f g : FE) : FS := fun ρ => (f ρ).bind fun x => (g ρ).bind fun y => if i < ρ.length ∧ j < ρ.length then .ret (.nx ((ρ.set i (.fz x)).set j (.fz y))) else .bad
/-- a, b = [..], y where a will change its list -/
def sParO (i j : Nat) (f g : FE) : FS := fun ρ => (f ρ).bind fun x => (g ρ).bind fun y => match x with
  | .lst xs => if i < ρ.length ∧ j < ρ.length then .ret (.nx ((ρ.set i (.ow xs)).set j (.fz y))) else .bad
  | _ => .bad
/-- a, b, c = x, y, z; o: the last one will change its list -/
def sPar3 (i j l : Nat) (f g h : FE) : FS := fun ρ => (f ρ).bind fun x => (g ρ).bind fun y => (h ρ).bind fun z => if i < ρ.length ∧ j < ρ.length ∧ l < ρ.length then .ret (.nx (((ρ.set i (.fz x)).set j (.fz y)).set l (.fz z))) else .bad
def sPar3O (i j l : Nat) (f g h : FE) : FS := fun ρ => (f ρ).bind fun x => (g ρ).bind fun y => (h ρ).bind fun z => match z with
  | .lst zs => if i < ρ.length ∧ j < ρ.length ∧ l < ρ.length then .ret (.nx (((ρ.set i (.fz x)).set j (.fz y)).set l (.ow zs))) else .bad
  | _ => .bad
/-- a, b = x, [..] where b will change its list -/
def sParB (i j : Nat) (f g : FE) : FS := fun ρ => (f ρ).bind fun x => (g ρ).bind fun y => match y with
  | .lst ys => if i < ρ.length ∧ j < ρ.length then .ret (.nx ((ρ.set i (.fz x)).set j (.ow ys))) else .bad
  | _ => .bad
def sIf (c : FE) (s t : FS) : FS := fun ρ => (c ρ).bind fun b => onB b (s ρ) (t ρ)
def sRet (f : FE) : FS := fun ρ => (f ρ).bind fun x => .ret (.rt x)
def sRetN : FS := fun _ => .ret (.rt .non)
def sExpr (f : FE) : FS := fun ρ => (f ρ).bind fun _ => .ret (.nx ρ)
def sNever : FS := fun _ => .bad
/-- xs.append(f) -/
def sApp (i : Nat) (f : FE) : FS := fun ρ => match ρ[i]? with
  | some (.ow xs) => (f ρ).bind fun x => if xs.length < sizeMax then .ret (.nx (ρ.set i (.ow (xs ++ [x])))) else .bad
  | _ => .bad
/-- a name's own list becomes one that nobody changes any more -/
def frz (i : Nat) (ρ : Ev) : Ev := match ρ[i]? with
  | some (.ow xs) => ρ.set i (.fz (.lst xs))
  | _ => ρ
def sFrz (i : Nat) (s : FS) : FS := fun ρ => s (frz i ρ)
def loop (tg : FG) (b : FS) : List D → Ev → M Fl
  | [], ρ => .ret (.nx ρ)
  | x :: xs, ρ => match tg x ρ with
    | none => .bad
    | some ρ1 => (b ρ1).bind fun fl => match fl with
      | .nx ρ2 => loop tg b xs ρ2
      | .ct ρ2 => loop tg b xs ρ2
      | .bk ρ2 => .ret (.nx ρ2)
      | .rt d => .ret (.rt d)
def sFor (it : FL) (tg : FG) (b : FS) : FS := fun ρ => (it ρ).bind fun xs => loop tg b xs ρ
def wloop (c : FE) (b : FS) : Nat → Ev → M Fl
  | 0, _ => .bad
  | n + 1, ρ => (c ρ).bind fun t => onB t ((b ρ).bind fun fl => match fl with
      | .nx ρ2 => wloop c b n ρ2
      | .ct ρ2 => wloop c b n ρ2
      | .bk ρ2 => .ret (.nx ρ2)
      | .rt d => .ret (.rt d)) (.ret (.nx ρ))
def sWhile (n : Nat) (c : FE) (b : FS) : FS := fun ρ => wloop c b n ρ
def sBrk : FS := fun ρ => .ret (.bk ρ)
def sCt : FS := fun ρ => .ret (.ct ρ)

/-- a def: its parameters are the first names; n names in all -/
def run (n k : Nat) (b : FS) (args : List D) : M D :=
  if args.length = k then (b (args.map .fz ++ List.replicate (n - k) .no)).bind fun fl => match fl with
    | .rt d => .ret d
    | .nx _ => .ret .non
    | _ => .bad
  else .bad

/-! ### operators -/
def gAdd : D → D → M D
  | .int i, .int j => .ret (.int (i + j))
  | .str a, .str b => fit (a.length + b.length) (.ret (.str (a ++ b)))
  | .lst a, .lst b => fit (a.length + b.length) (.ret (.lst (a ++ b)))
  | .tup a, .tup b => fit (a.length + b.length) (.ret (.tup (a ++ b)))
  | _, _ => .bad
def gAddI : D → D → M D
  | .int i, .int j => .ret (.int (i + j))
  | _, _ => .bad
def gSub : D → D → M D
  | .int i, .int j => .ret (.int (i - j))
  | _, _ => .bad
def small (i : Int) : Bool := decide (i.natAbs < 18446744073709551616)
def gMul : D → D → M D
  | .int i, .int j => if small i || small j then .ret (.int (i * j)) else .bad
  | .str a, .int k => if k.natAbs ≤ 1000000 ∧ a.length ≤ 15 ∧ 0 ≤ k then .ret (.str (List.replicate k.toNat a).flatten) else .bad
  | .lst a, .int k => if k.natAbs ≤ 1000000 ∧ a.length ≤ 15 ∧ 0 ≤ k then .ret (.lst (List.replicate k.toNat a).flatten) else .bad
  | .tup a, .int k => if k.natAbs ≤ 1000 ∧ a.length ≤ 1000 ∧ 0 < k ∧ 1 ≤ a.length then .ret (.tup (List.replicate k.toNat a).flatten) else .bad
  | _, _ => .bad
def gDiv : D → D → M D
  | .int i, .int j => if 0 < j ∧ j.natAbs < 1073741824 then .ret (.int (i / j)) else .bad
  | _, _ => .bad
def gMod : D → D → M D
  | .int i, .int j => if 0 < j then .ret (.int (i % j)) else .bad
  | _, _ => .bad
def gNeg : D → M D
  | .int i => .ret (.int (-i))
  | _ => .bad

/-! equality as Python has it -/
mutual
def D.eq : D → D → Bool
  | .non, .non => true
  | .bl a, .bl b => a == b
  | .bl a, .int j => (if a then 1 else 0) == j
  | .int i, .bl b => i == (if b then 1 else 0)
  | .int i, .int j => i == j
  | .str x, .str y => x == y
  | .lst xs, .lst ys => D.eqs xs ys
  | .tup xs, .tup ys => D.eqs xs ys
  | _, _ => false
def D.eqs : List D → List D → Bool
  | [], [] => true
  | x :: xs, y :: ys => D.eq x y && D.eqs xs ys
  | _, _ => false
end
/-- no cup within, at most so deep -/
def D.ok : Nat → D → Bool
  | _, .non => true
  | _, .bl _ => true
  | _, .int _ => true
  | _, .str _ => true
  | n + 1, .tup xs => xs.all (D.ok n)
  | n + 1, .lst xs => xs.all (D.ok n)
  | _, _ => false
def gEq (a b : D) : M D := if D.ok 20 a && D.ok 20 b then .ret (.bl (D.eq a b)) else .bad
def gNe (a b : D) : M D := if D.ok 20 a && D.ok 20 b then .ret (.bl (!D.eq a b)) else .bad
def gLt : D → D → M D
  | .int i, .int j => .ret (.bl (decide (i < j)))
  | .str a, .str b => .ret (.bl (decide (a < b)))
  | _, _ => .bad
def gLe : D → D → M D
  | .int i, .int j => .ret (.bl (decide (i ≤ j)))
  | .str a, .str b => .ret (.bl (!decide (b < a)))
  | _, _ => .bad
def gGt : D → D → M D
  | .int i, .int j => .ret (.bl (decide (j < i)))
  | .str a, .str b => .ret (.bl (decide (b < a)))
  | _, _ => .bad
def gGe : D → D → M D
  | .int i, .int j => .ret (.bl (decide (j ≤ i)))
  | .str a, .str b => .ret (.bl (!decide (a < b)))
  | _, _ => .bad
def isNon : D → Bool
  | .non => true
  | _ => false
def gIs : D → D → M D
  | a, .non => .ret (.bl (isNon a))
  | .bl a, .bl b => .ret (.bl (a == b))
  | _, _ => .bad
def gIsNot : D → D → M D
  | a, .non => .ret (.bl (!isNon a))
  | .bl a, .bl b => .ret (.bl (!(a == b)))
  | _, _ => .bad
/-- x in xs -/
def gIn : D → D → M D
  | x, .lst xs => if D.ok 20 x && xs.all (D.ok 20) then .ret (.bl (xs.any fun y => D.eq y x)) else .bad
  | x, .tup xs => if D.ok 20 x && xs.all (D.ok 20) then .ret (.bl (xs.any fun y => D.eq y x)) else .bad
  | .str [c], .str s => .ret (.bl (decide (c ∈ s)))
  | _, _ => .bad
def gNotIn : D → D → M D
  | x, .lst xs => if D.ok 20 x && xs.all (D.ok 20) then .ret (.bl (!xs.any fun y => D.eq y x)) else .bad
  | x, .tup xs => if D.ok 20 x && xs.all (D.ok 20) then .ret (.bl (!xs.any fun y => D.eq y x)) else .bad
  | .str [c], .str s => .ret (.bl (!decide (c ∈ s)))
  | _, _ => .bad

/-! items, slices -/
def at? {α : Type} (xs : List α) (i : Int) : Option α := if 0 ≤ i then xs[i.toNat]? else if -(xs.length : Int) ≤ i then xs[(i + (xs.length : Int)).toNat]? else none
def ofO (o : Option D) : M D := match o with
  | some d => .ret d
  | none => .bad
def gIx : D → D → M D
  | .lst xs, .int i => ofO (at? xs i)
  | .tup xs, .int i => ofO (at? xs i)
  | .str s, .int i => fit s.length (ofO ((at? s i).map fun c => .str [c]))
  | _, _ => .bad
/-- where a bound of a slice lies -/
def cutIx (n : Nat) (d : Nat) : Option Int → Nat
  | none => d
  | some i => if i < 0 then (i + (n : Int)).toNat else min i.toNat n
def cut {α : Type} (xs : List α) (lo hi : Option Int) : List α := (xs.drop (cutIx xs.length 0 lo)).take (cutIx xs.length xs.length hi - cutIx xs.length 0 lo)
def gSl (x : D) (lo hi : Option Int) : M D := match x with
  | .lst xs => .ret (.lst (cut xs lo hi))
  | .tup xs => .ret (.tup (cut xs lo hi))
  | .str s => fit s.length (.ret (.str (cut s lo hi)))
  | _ => .bad
abbrev FO := Ev → M (Option Int)
def fNoPart : FO := fun _ => .ret none
def fPart (f : FE) : FO := fun ρ => (f ρ).bind fun d => match d with
  | .int i => .ret (some i)
  | _ => .bad
def fSl (f : FE) (lo hi : FO) : FE := fun ρ => (f ρ).bind fun x => (lo ρ).bind fun a => (hi ρ).bind fun b => gSl x a b
def gRev : D → M D
  | .lst xs => .ret (.lst xs.reverse)
  | .tup xs => .ret (.tup xs.reverse)
  | .str s => fit s.length (.ret (.str s.reverse))
  | _ => .bad

/-! built-ins -/
def gLen : D → M D
  | .lst xs => .ret (.int xs.length)
  | .tup xs => .ret (.int xs.length)
  | .str s => fit s.length (.ret (.int s.length))
  | _ => .bad
def onO {α : Type} (o : Option α) (g : α → M D) : M D := match o with
  | some a => g a
  | none => .bad
def asBools : List D → Option (List Bool)
  | [] => some []
  | .bl b :: xs => (asBools xs).map (b :: ·)
  | _ => none
def asInts : List D → Option (List Int)
  | [] => some []
  | .int i :: xs => (asInts xs).map (i :: ·)
  | _ => none
def asStrs : List D → Option (List (List Nat))
  | [] => some []
  | .str i :: xs => (asStrs xs).map (i :: ·)
  | _ => none
def gAll : D → M D
  | .lst xs => onO (asBools xs) fun bs => .ret (.bl (bs.all id))
  | _ => .bad
def gSum : D → M D
  | .lst xs => onO (asInts xs) fun ns => .ret (.int ns.sum)
  | _ => .bad
def maxI : List Int → Int
  | [] => 0
  | [x] => x
  | x :: y :: r => max x (maxI (y :: r))
def minI : List Int → Int
  | [] => 0
  | [x] => x
  | x :: y :: r => min x (minI (y :: r))
def gMaxL : D → M D
  | .lst (x :: xs) => onO (asInts (x :: xs)) fun ns => .ret (.int (maxI ns))
  | _ => .bad
def gMinL : D → M D
  | .lst (x :: xs) => onO (asInts (x :: xs)) fun ns => .ret (.int (minI ns))
  | _ => .bad
def gMax2 : D → D → M D
  | .int i, .int j => .ret (.int (if j > i then j else i))
  | _, _ => .bad
def gMin2 : D → D → M D
  | .int i, .int j => .ret (.int (if j < i then j else i))
  | _, _ => .bad
def gTuple : D → M D
  | .lst xs => .ret (.tup xs)
  | .tup xs => .ret (.tup xs)
  | _ => .bad
def gList : D → M D
  | .lst xs => .ret (.lst xs)
  | .tup xs => .ret (.lst xs)
  | _ => .bad
def gInt : D → M D
  | .int i => .ret (.int i)
  | _ => .bad
def gStr : D → M D
  | .str i => .ret (.str i)
  | _ => .bad
inductive Ty where
  | int | bool | str | tuple | list
def isTy : Ty → D → Option Bool
  | _, .cup => none
  | _, .scr => none
  | .int, .int _ => some true
  | .int, .bl _ => some true
  | .bool, .bl _ => some true
  | .str, .str _ => some true
  | .tuple, .tup _ => some true
  | .list, .lst _ => some true
  | _, _ => some false
def gIsT (t : Ty) (d : D) : M D := match isTy t d with
  | some b => .ret (.bl b)
  | none => .bad
def ins (x : Int) : List Int → List Int
  | [] => [x]
  | y :: ys => if x ≤ y then x :: y :: ys else y :: ins x ys
def isort : List Int → List Int
  | [] => []
  | x :: xs => ins x (isort xs)
def gSorted : D → M D
  | .lst xs => onO (asInts xs) fun ns => .ret (.lst ((isort ns).map .int))
  | _ => .bad
/-- each once, as first met -/
def once {α : Type} [DecidableEq α] (xs : List α) : List α := xs.foldl (fun l k => if k ∈ l then l else l ++ [k]) []
/-- each int once, as it is first met -/
def dedupI (ns : List Int) : List Int := ns.foldl (fun l k => if l.any (· == k) then l else l ++ [k]) []
/-- sorted(set(xs)) -/
def gSortedSet : D → M D
  | .lst xs => onO (asInts xs) fun ns => if (dedupI ns).length < 64 ∧ ns.length < 4000 then .ret (.lst ((isort (dedupI ns)).map .int)) else .bad
  | _ => .bad
def join (xs : List (List Nat)) : List Nat := xs.flatten
/-- "".join(xs) -/
def gJoin : D → M D
  | .lst xs => onO (asStrs xs) fun ss => fit (ss.map List.length).sum (.ret (.str ss.flatten))
  | .tup xs => onO (asStrs xs) fun ss => fit (ss.map List.length).sum (.ret (.str ss.flatten))
  | _ => .bad
/-- len(set(texts)) -/
def gLenSet : D → M D
  | .lst xs => onO (asStrs xs) fun ss => if ss.length ≤ 4000 then .ret (.int (once ss).length) else .bad
  | .tup xs => onO (asStrs xs) fun ss => if ss.length ≤ 4000 then .ret (.int (once ss).length) else .bad
  | _ => .bad
def asStr : D → M D
  | .str s => .ret (.str s)
  | _ => .bad
def gCount : D → D → M D
  | .str s, .str [c] => .ret (.int (s.count c))
  | _, _ => .bad

/-! what is walked -/
def wSeq : D → M (List D)
  | .lst xs => .ret xs
  | .tup xs => .ret xs
  | .str s => if s.length ≤ sizeMax then .ret (s.map fun c => .str [c]) else .bad
  | _ => .bad
def iSeq (f : FE) : FL := fun ρ => (f ρ).bind wSeq
def rngL (lo : Int) (n : Nat) : List D := (List.range n).map fun (i : Nat) => .int (lo + i)
def iRange1 (f : FE) : FL := fun ρ => (f ρ).bind fun d => match d with
  | .int j => if j.natAbs ≤ 4000000 then .ret (rngL 0 j.toNat) else .bad
  | _ => .bad
def iRange2 (f g : FE) : FL := fun ρ => (f ρ).bind fun d => (g ρ).bind fun e => match d, e with
  | .int i, .int j => if i.natAbs ≤ 4000000 ∧ j.natAbs ≤ 4000000 then .ret (rngL i (j - i).toNat) else .bad
  | _, _ => .bad

/-! draws -/
def gRoll : List D → M D
  | [.cup, .int n] => if 0 < n ∧ n.natAbs < 1073741824 then .draw n.toNat fun i => .ret (.int i) else .bad
  | _ => .bad
def gCup : List D → M D
  | [.scr] => .ret .cup
  | _ => .bad
/-! a law: its first statement makes the cup -/
def lawEnv (n : Nat) : Ev := [.no, .fz .cup] ++ List.replicate n .no
def isTrue1 : D → Prop
  | .bl true => True
  | _ => False
def lawM (n : Nat) (b : FS) : M D := (b (lawEnv n)).bind fun fl => match fl with
  | .rt d => .ret d
  | _ => .bad
end WK
end

section
set_option Elab.async false
set_option linter.all false
set_option maxRecDepth 100000
/-! The plain side and the machine: what stands for what. -/
namespace WK
open PySem L2

abbrev SS (s : List Nat) : Str := ⟨s.toArray⟩

/-! ### what stands for what: F is the part of the heap that nobody changes any more -/
mutual
inductive Rp (K : PySem.W.Frag) (F : Hp) (C : Option Addr) : V → D → Prop
  | non : Rp K F C .non .non
  | bl (b : Bool) : Rp K F C (.bl b) (.bl b)
  | int (i : Int) : Rp K F C (.int i) (.int i)
  | str (s : List Nat) : Rp K F C (.str (SS s)) (.str s)
  | tup {a : Addr} {vs : List V} {ds : List D} : SqT K F a vs → Rps K F C vs ds → Rp K F C (.ref a) (.tup ds)
  | lst {a : Addr} {vs : List V} {ds : List D} : F a = some (.lst vs) → Rps K F C vs ds → Rp K F C (.ref a) (.lst ds)
  | scr {a : Addr} {ns : List Int} : SqL K F a (ns.map V.int) → Rp K F C (.ref a) .scr
  | cup {c : Addr} : C = some c → Rp K F C (.ref c) .cup
inductive Rps (K : PySem.W.Frag) (F : Hp) (C : Option Addr) : List V → List D → Prop
  | nil : Rps K F C [] []
  | cons {v : V} {vs : List V} {d : D} {ds : List D} : Rp K F C v d → Rps K F C vs ds → Rps K F C (v :: vs) (d :: ds)
end
section
variable {K : PySem.W.Frag} {F F' : Hp} {C C' : Option Addr}
theorem sameT {H H' : Hp} {a : Addr} {xs : List V} (e : Same H H') (h : SqT K H a xs) : SqT K H' a xs := by
  rcases h with (h | ⟨o, h⟩) | h
  · exact .inl (.inl (e _ _ h))
  · exact .inl (.inr ⟨o, e _ _ h⟩)
  · exact .inr h
mutual
theorem Rp.mono (hF : Same F F') (hC : ∀ c, C = some c → C' = some c) : ∀ {v : V} {d : D}, Rp K F C v d → Rp K F' C' v d
  | _, _, .non => .non
  | _, _, .bl b => .bl b
  | _, _, .int i => .int i
  | _, _, .str s => .str s
  | _, _, .tup h r => .tup (sameT hF h) (Rps.mono hF hC r)
  | _, _, .lst h r => .lst (hF _ _ h) (Rps.mono hF hC r)
  | _, _, .scr h => .scr (Same.seq hF h)
  | _, _, .cup h => .cup (hC _ h)
theorem Rps.mono (hF : Same F F') (hC : ∀ c, C = some c → C' = some c) : ∀ {v : List V} {d : List D}, Rps K F C v d → Rps K F' C' v d
  | _, _, .nil => .nil
  | _, _, .cons r t => .cons (Rp.mono hF hC r) (Rps.mono hF hC t)
end
theorem Rps.length : ∀ {vs : List V} {ds : List D}, Rps K F C vs ds → vs.length = ds.length
  | _, _, .nil => rfl
  | _, _, .cons _ t => congrArg (· + 1) (Rps.length t)
theorem Rps.get : ∀ {vs : List V} {ds : List D} {i : Nat} {d : D}, Rps K F C vs ds → ds[i]? = some d → ∃ v, vs[i]? = some v ∧ Rp K F C v d
  | _, _, _, _, .nil, e => by simp at e
  | _, _, 0, _, .cons r _, e => by simp at e; subst e; exact ⟨_, rfl, r⟩
  | _, _, i + 1, d, .cons _ t, e => by
    obtain ⟨u, h1, h2⟩ := Rps.get (i := i) (d := d) t (by simpa using e)
    exact ⟨u, by simpa using h1, h2⟩
theorem Rps.getV : ∀ {vs : List V} {ds : List D} {i : Nat} {v : V}, Rps K F C vs ds → vs[i]? = some v → ∃ d, ds[i]? = some d ∧ Rp K F C v d
  | _, _, _, _, .nil, e => by simp at e
  | _, _, 0, _, .cons r _, e => by simp at e; subst e; exact ⟨_, rfl, r⟩
  | _, _, i + 1, d, .cons _ t, e => by
    obtain ⟨u, h1, h2⟩ := Rps.getV (i := i) (v := d) t (by simpa using e)
    exact ⟨u, by simpa using h1, h2⟩
theorem Rps.append : ∀ {vs ws : List V} {ds es : List D}, Rps K F C vs ds → Rps K F C ws es → Rps K F C (vs ++ ws) (ds ++ es)
  | _, _, _, _, .nil, s => s
  | _, _, _, _, .cons r t, s => .cons r (Rps.append t s)
theorem Rps.take : ∀ {vs : List V} {ds : List D} (n : Nat), Rps K F C vs ds → Rps K F C (vs.take n) (ds.take n)
  | _, _, 0, _ => .nil
  | _, _, _ + 1, .nil => .nil
  | _, _, n + 1, .cons r t => .cons r (Rps.take n t)
theorem Rps.drop : ∀ {vs : List V} {ds : List D} (n : Nat), Rps K F C vs ds → Rps K F C (vs.drop n) (ds.drop n)
  | _, _, 0, r => r
  | _, _, _ + 1, .nil => .nil
  | _, _, n + 1, .cons _ t => Rps.drop n t
theorem Rps.one {v : V} {d : D} (r : Rp K F C v d) : Rps K F C [v] [d] := .cons r .nil
theorem Rps.flat : ∀ (n : Nat) {vs : List V} {ds : List D}, Rps K F C vs ds → Rps K F C (List.replicate n vs).flatten (List.replicate n ds).flatten
  | 0, _, _, _ => .nil
  | n + 1, _, _, r => by
    rw [List.replicate_succ, List.replicate_succ, List.flatten_cons, List.flatten_cons]
    exact r.append (Rps.flat n r)
theorem Rps.reverse : ∀ {vs : List V} {ds : List D}, Rps K F C vs ds → Rps K F C vs.reverse ds.reverse
  | _, _, .nil => .nil
  | _, _, .cons r t => by
    rw [List.reverse_cons, List.reverse_cons]
    exact (Rps.reverse t).append (.one r)
theorem Rps.nilD {vs : List V} (r : Rps K F C vs []) : vs = [] := by cases r; rfl
theorem Rps.nilV {ds : List D} (r : Rps K F C [] ds) : ds = [] := by cases r; rfl
theorem Rps.ints : ∀ {vs : List V} {ds : List D} {ns : List Int}, Rps K F C vs ds → asInts ds = some ns → vs = ns.map V.int
  | _, _, ns, .nil, e => by cases e; rfl
  | _, _, ns, .cons (ds := ds) r t, e => by
    cases r with
    | int i =>
      have e' : (asInts ds).map (i :: ·) = some ns := e
      cases q : asInts ds with
      | none => rw [q] at e'; cases e'
      | some ms =>
        rw [q] at e'
        cases e'
        rw [Rps.ints t q]; rfl
    | _ => exact nomatch e
theorem Rps.ofInts : ∀ (ns : List Int), Rps K F C (ns.map V.int) (ns.map D.int)
  | [] => .nil
  | n :: ns => .cons (.int n) (Rps.ofInts ns)
theorem Rps.bools : ∀ {vs : List V} {ds : List D} {ns : List Bool}, Rps K F C vs ds → asBools ds = some ns → vs = ns.map V.bl
  | _, _, ns, .nil, e => by cases e; rfl
  | _, _, ns, .cons (ds := ds) r t, e => by
    cases r with
    | bl i =>
      have e' : (asBools ds).map (i :: ·) = some ns := e
      cases q : asBools ds with
      | none => rw [q] at e'; cases e'
      | some ms =>
        rw [q] at e'
        cases e'
        rw [Rps.bools t q]; rfl
    | _ => exact nomatch e
theorem Rps.strs : ∀ {vs : List V} {ds : List D} {ns : List (List Nat)}, Rps K F C vs ds → asStrs ds = some ns → vs = (ns.map SS).map V.str
  | _, _, ns, .nil, e => by cases e; rfl
  | _, _, ns, .cons (ds := ds) r t, e => by
    cases r with
    | str i =>
      have e' : (asStrs ds).map (i :: ·) = some ns := e
      cases q : asStrs ds with
      | none => rw [q] at e'; cases e'
      | some ms =>
        rw [q] at e'
        cases e'
        rw [Rps.strs t q]; rfl
    | _ => exact nomatch e
end

/-! ### the heap as it stands: H, its part that nobody changes any more, the cup -/
structure HF (H F : Hp) (C : Option Addr) : Prop where
  sub : Same F H
  cup : ∀ c, C = some c → (∃ a b : Int, H c = some (.lst [.int a, .int b])) ∧ F c = none
/-- what an expression does: nothing that stood is changed but the cup; new things may be such that nobody changes any more -/
structure Step (H F : Hp) (C : Option Addr) (H' F' : Hp) (C' : Option Addr) : Prop where
  hf : HF H' F' C'
  same : ∀ b o, C ≠ some b → H b = some o → H' b = some o
  frz : Same F F'
  new : ∀ b, H b ≠ none → F b = none → F' b = none
  cup : ∀ c, C = some c → C' = some c
  cupN : ∀ c, C' = some c → C = some c ∨ H c = none
section
variable {H F H1 F1 H2 F2 : Hp} {C C1 C2 : Option Addr}
theorem HF.refl (h : HF H F C) : Step H F C H F C := ⟨h, fun _ _ _ e => e, Same.refl _, fun _ _ e => e, fun _ e => e, fun _ e => .inl e⟩
theorem Step.there (s : Step H F C H1 F1 C1) (h : HF H F C) {b : Addr} (n : H b ≠ none) : H1 b ≠ none := by
  by_cases hb : C = some b
  · obtain ⟨⟨x, y, e⟩, _⟩ := s.hf.cup b (s.cup b hb)
    rw [e]; simp
  · cases q : H b with
    | none => exact absurd q n
    | some o => rw [s.same b o hb q]; simp
theorem Step.trans (h : HF H F C) (a : Step H F C H1 F1 C1) (b : Step H1 F1 C1 H2 F2 C2) : Step H F C H2 F2 C2 := by
  refine ⟨b.hf, fun x o n e => ?_, a.frz.trans b.frz, fun x n e => b.new x (a.there h n) (a.new x n e), fun c e => b.cup c (a.cup c e), fun c e => ?_⟩
  · refine b.same x o (fun q => ?_) (a.same x o n e)
    rcases a.cupN x q with q | q
    · exact n q
    · rw [q] at e; cases e
  · rcases b.cupN c e with q | q
    · exact a.cupN c q
    · refine .inr ?_
      cases r : H c with
      | none => rfl
      | some o => exact absurd q (a.there h (by rw [r]; simp))
/-- a new thing -/
theorem HF.laid (h : HF H F C) {p : Addr} {o : HO} (np : H p = none) : Step H F C (upd H p o) F C := by
  have hF : F p = none := h.sub.free np
  have hc : ∀ c, C = some c → c ≠ p := fun c e q => by
    obtain ⟨⟨x, y, z⟩, _⟩ := h.cup c e
    rw [q, np] at z; cases z
  refine ⟨⟨fun b u e => ?_, fun c e => ?_⟩, fun b u _ e => ?_, Same.refl _, fun _ _ e => e, fun _ e => e, fun _ e => .inl e⟩
  · rw [upd_ne (ne_of_none e hF)]; exact h.sub b u e
  · obtain ⟨⟨x, y, z⟩, w⟩ := h.cup c e
    exact ⟨⟨x, y, by rw [upd_ne (hc c e)]; exact z⟩, w⟩
  · rw [upd_ne (ne_of_none e np)]; exact e
/-- .. that nobody changes any more -/
theorem Step.freeze (s : Step H F C H1 F1 C1) {p : Addr} {o : HO} (np : H p = none) (hp : H1 p = some o) (fp : F1 p = none) (nc : C1 ≠ some p) : Step H F C H1 (upd F1 p o) C1 := by
  refine ⟨⟨fun b u e => ?_, fun c e => ⟨(s.hf.cup c e).1, ?_⟩⟩, s.same, fun b u e => ?_, fun b n e => ?_, s.cup, s.cupN⟩
  · by_cases hb : b = p
    · subst hb; rw [upd_same] at e; cases e; exact hp
    · rw [upd_ne hb] at e; exact s.hf.sub b u e
  · rw [upd_ne (fun q : c = p => nc (q ▸ e))]; exact (s.hf.cup c e).2
  · rw [upd_ne (ne_of_none (s.frz b u e) fp)]; exact s.frz b u e
  · rw [upd_ne (fun q : b = p => n (q ▸ np))]; exact s.new b n e
theorem HF.notNew (h : HF H F C) {p : Addr} (np : H p = none) : F p = none ∧ C ≠ some p := ⟨h.sub.free np, fun e => by
  obtain ⟨⟨x, y, z⟩, _⟩ := h.cup p e
  rw [np] at z; cases z⟩
theorem HF.laidF (h : HF H F C) {p : Addr} {o : HO} (np : H p = none) : Step H F C (upd H p o) (upd F p o) C :=
  (h.laid np).freeze np upd_same (h.notNew np).1 (h.notNew np).2
/-- a new thing of one's own is changed -/
theorem Step.put (s : Step H F C H1 F1 C1) {p : Addr} {o u : HO} (hp : H1 p = some o) (fp : F1 p = none) (cp : C1 ≠ some p) (np : H p = none) : Step H F C (upd H1 p u) F1 C1 := by
  refine ⟨⟨fun b w e => ?_, fun c e => ?_⟩, fun b w n e => ?_, s.frz, s.new, s.cup, s.cupN⟩
  · rw [upd_ne (ne_of_none e fp)]; exact s.hf.sub b w e
  · obtain ⟨⟨x, y, z⟩, w⟩ := s.hf.cup c e
    exact ⟨⟨x, y, by rw [upd_ne (fun q : c = p => cp (q ▸ e))]; exact z⟩, w⟩
  · rw [upd_ne (ne_of_none e np)]; exact s.same b w n e
theorem upd_sub {p : Addr} {o : HO} (np : F p = none) : Same F (upd F p o) := fun b u e => by rw [upd_ne (ne_of_none e np)]; exact e
end

/-- a value that is only looked at: it may be a list of somebody's own -/
def RpB (K : PySem.W.Frag) (F H : Hp) (C : Option Addr) (v : V) (d : D) : Prop :=
  Rp K F C v d ∨ ∃ p vs xs, v = .ref p ∧ d = .lst xs ∧ H p = some (.lst vs) ∧ C ≠ some p ∧ Rps K F C vs xs
/-- a new list that nobody else knows -/
def RpN (K : PySem.W.Frag) (H0 F H : Hp) (C : Option Addr) (v : V) (d : D) : Prop :=
  ∃ p vs xs, v = .ref p ∧ d = .lst xs ∧ H0 p = none ∧ H p = some (.lst vs) ∧ F p = none ∧ C ≠ some p ∧ Rps K F C vs xs
section
variable {K : PySem.W.Frag} {H F H1 F1 : Hp} {C C1 : Option Addr} {v : V} {d : D}
theorem RpB.step (r : RpB K F H C v d) (s : Step H F C H1 F1 C1) : RpB K F1 H1 C1 v d := by
  rcases r with r | ⟨p, vs, xs, e1, e2, h, n, r⟩
  · exact .inl (r.mono s.frz s.cup)
  · refine .inr ⟨p, vs, xs, e1, e2, s.same p _ n h, fun q => ?_, r.mono s.frz s.cup⟩
    rcases s.cupN p q with q | q
    · exact n q
    · rw [q] at h; cases h
theorem Rp.step (r : Rp K F C v d) (s : Step H F C H1 F1 C1) : Rp K F1 C1 v d := r.mono s.frz s.cup
/-- what a list's value is -/
theorem RpB.list {xs : List D} (r : RpB K F H C v (.lst xs)) (h : HF H F C) : ∃ p vs, v = .ref p ∧ H p = some (.lst vs) ∧ Rps K F C vs xs := by
  rcases r with r | ⟨p, vs, xs', e1, e2, hp, n, r⟩
  · cases r with
    | lst hs rs => exact ⟨_, _, rfl, h.sub _ _ hs, rs⟩
  · cases e2
    exact ⟨p, vs, e1, hp, r⟩
theorem RpB.tup {xs : List D} (r : RpB K F H C v (.tup xs)) (h : HF H F C) : ∃ p vs, v = .ref p ∧ SqT K F p vs ∧ SqT K H p vs ∧ Rps K F C vs xs := by
  rcases r with r | ⟨p, vs, xs', e1, e2, hp, n, r⟩
  · cases r with
    | tup hs rs => exact ⟨_, _, rfl, hs, sameT h.sub hs, rs⟩
  · cases e2
theorem RpB.int {i : Int} (r : RpB K F H C v (.int i)) : v = .int i := by
  rcases r with r | ⟨p, vs, xs', e1, e2, hp, n, r⟩
  · cases r; rfl
  · cases e2
theorem RpB.bl {i : Bool} (r : RpB K F H C v (.bl i)) : v = .bl i := by
  rcases r with r | ⟨p, vs, xs', e1, e2, hp, n, r⟩
  · cases r; rfl
  · cases e2
theorem RpB.str {i : List Nat} (r : RpB K F H C v (.str i)) : v = .str (SS i) := by
  rcases r with r | ⟨p, vs, xs', e1, e2, hp, n, r⟩
  · cases r; rfl
  · cases e2
theorem RpB.non (r : RpB K F H C v .non) : v = .non := by
  rcases r with r | ⟨p, vs, xs', e1, e2, hp, n, r⟩
  · cases r; rfl
  · cases e2
end

/-! ### the names -/
def SlOk (K : PySem.W.Frag) (B H F : Hp) (C : Option Addr) (o : Option (Option V)) : Sl → Prop
  | .no => True
  | .fz d => ∃ v, o = some (some v) ∧ Rp K F C v d
  | .ow xs => ∃ p vs, o = some (some (.ref p)) ∧ H p = some (.lst vs) ∧ Rps K F C vs xs ∧ B p = none ∧ F p = none ∧ C ≠ some p
structure EnvOk (K : PySem.W.Frag) (B : Hp) (σ : St) (H F : Hp) (C : Option Addr) (ρ : Ev) : Prop where
  hf : HF H F C
  base : Same B H
  cupB : ∀ c, C = some c → B c = none
  len : σ.length = ρ.length
  slot : ∀ (i : Nat) (s : Sl), ρ[i]? = some s → SlOk K B H F C σ[i]? s
  apart : ∀ (i j : Nat) (p : Addr) (xs ys : List D), i ≠ j → ρ[i]? = some (.ow xs) → ρ[j]? = some (.ow ys) → σ[i]? = some (some (.ref p)) → σ[j]? ≠ some (some (.ref p))
section
variable {K : PySem.W.Frag} {B H F H1 F1 : Hp} {C C1 : Option Addr} {σ : St} {ρ : Ev}
theorem EnvOk.step (h : EnvOk K B σ H F C ρ) (s : Step H F C H1 F1 C1) : EnvOk K B σ H1 F1 C1 ρ := by
  refine ⟨s.hf, fun b o e => s.same b o (fun q => ?_) (h.base b o e), fun c e => ?_, h.len, fun i x e => ?_, h.apart⟩
  · rw [h.cupB b q] at e; cases e
  · rcases s.cupN c e with q | q
    · exact h.cupB c q
    · exact h.base.free q
  · have q := h.slot i x e
    cases x with
    | no => trivial
    | fz d =>
      obtain ⟨v, e1, r⟩ := q
      exact ⟨v, e1, r.mono s.frz s.cup⟩
    | ow xs =>
      obtain ⟨p, vs, e1, hp, r, b, f, c⟩ := q
      refine ⟨p, vs, e1, s.same p _ c hp, r.mono s.frz s.cup, b, s.new p (by rw [hp]; simp) f, fun q => ?_⟩
      rcases s.cupN p q with q | q
      · exact c q
      · rw [q] at hp; cases hp
theorem EnvOk.set (h : EnvOk K B σ H F C ρ) {i : Nat} {v : V} {d : D} (r : Rp K F C v d) : EnvOk K B (σ.set i (some v)) H F C (ρ.set i (.fz d)) := by
  refine ⟨h.hf, h.base, h.cupB, by simpa using h.len, fun j x e => ?_, fun j k p xs ys n e1 e2 e3 => ?_⟩
  · by_cases hj : i = j
    · subst hj
      have hi : i < ρ.length := by
        have := (List.getElem?_eq_some_iff.mp e).1
        simpa using this
      rw [List.getElem?_set_self hi] at e
      cases e
      exact ⟨v, by rw [List.getElem?_set_self (by rw [h.len]; exact hi)], r⟩
    · rw [List.getElem?_set_ne hj] at e ⊢
      exact h.slot j x e
  · have own : ∀ (k : Nat) (zs : List D), (ρ.set i (.fz d))[k]? = some (.ow zs) → i ≠ k ∧ ρ[k]? = some (.ow zs) := fun k zs e => by
      by_cases hk : i = k
      · subst hk
        have hi : i < ρ.length := by
          have := (List.getElem?_eq_some_iff.mp e).1
          simpa using this
        rw [List.getElem?_set_self hi] at e
        cases e
      · rw [List.getElem?_set_ne hk] at e
        exact ⟨hk, e⟩
    obtain ⟨a1, a2⟩ := own j xs e1
    obtain ⟨b1, b2⟩ := own k ys e2
    rw [List.getElem?_set_ne a1] at e3
    rw [List.getElem?_set_ne b1]
    exact h.apart j k p xs ys n a2 b2 e3
theorem EnvOk.setNo (h : EnvOk K B σ H F C ρ) {i : Nat} {o : Option V} : EnvOk K B (σ.set i o) H F C (ρ.set i .no) := by
  refine ⟨h.hf, h.base, h.cupB, by simpa using h.len, fun j x e => ?_, fun j k p xs ys n e1 e2 e3 => ?_⟩
  · by_cases hj : i = j
    · subst hj
      have hi : i < ρ.length := by
        have := (List.getElem?_eq_some_iff.mp e).1
        simpa using this
      rw [List.getElem?_set_self hi] at e
      cases e
      trivial
    · rw [List.getElem?_set_ne hj] at e ⊢
      exact h.slot j x e
  · have own : ∀ (k : Nat) (zs : List D), (ρ.set i .no)[k]? = some (.ow zs) → i ≠ k ∧ ρ[k]? = some (.ow zs) := fun k zs e => by
      by_cases hk : i = k
      · subst hk
        have hi : i < ρ.length := by
          have := (List.getElem?_eq_some_iff.mp e).1
          simpa using this
        rw [List.getElem?_set_self hi] at e
        cases e
      · rw [List.getElem?_set_ne hk] at e
        exact ⟨hk, e⟩
    obtain ⟨a1, a2⟩ := own j xs e1
    obtain ⟨b1, b2⟩ := own k ys e2
    rw [List.getElem?_set_ne a1] at e3
    rw [List.getElem?_set_ne b1]
    exact h.apart j k p xs ys n a2 b2 e3
theorem EnvOk.wipe : ∀ (vs : List Nat) {σ : St} {ρ : Ev}, EnvOk K B σ H F C ρ → EnvOk K B (L2.wipe σ vs) H F C (WK.wipe ρ vs)
  | [], _, _, h => h
  | i :: vs, _, _, h => (EnvOk.wipe vs h).setNo (i := i) (o := none)
/-- a new list becomes a name's own -/
theorem EnvOk.setOwn (h : EnvOk K B σ H F C ρ) {i : Nat} {p : Addr} {vs : List V} {xs : List D} (hp : H p = some (.lst vs)) (r : Rps K F C vs xs) (b : B p = none) (f : F p = none) (c : C ≠ some p)
    (no : ∀ (j : Nat) (ys : List D), ρ[j]? = some (.ow ys) → σ[j]? ≠ some (some (.ref p))) : EnvOk K B (σ.set i (some (.ref p))) H F C (ρ.set i (.ow xs)) := by
  refine ⟨h.hf, h.base, h.cupB, by simpa using h.len, fun j x e => ?_, fun j k q xs' ys n e1 e2 e3 => ?_⟩
  · by_cases hj : i = j
    · subst hj
      have hi : i < ρ.length := by
        have := (List.getElem?_eq_some_iff.mp e).1
        simpa using this
      rw [List.getElem?_set_self hi] at e
      cases e
      exact ⟨p, vs, by rw [List.getElem?_set_self (by rw [h.len]; exact hi)], hp, r, b, f, c⟩
    · rw [List.getElem?_set_ne hj] at e ⊢
      exact h.slot j x e
  · by_cases hj : i = j
    · subst hj
      have hi : i < ρ.length := by
        have := (List.getElem?_eq_some_iff.mp e1).1
        simpa using this
      rw [List.getElem?_set_self (by rw [h.len]; exact hi)] at e3
      cases e3
      rw [List.getElem?_set_ne n] at e2 ⊢
      exact no k ys e2
    · rw [List.getElem?_set_ne hj] at e1 e3
      by_cases hk : i = k
      · subst hk
        have hi : i < ρ.length := by
          have := (List.getElem?_eq_some_iff.mp e2).1
          simpa using this
        rw [List.getElem?_set_self (by rw [h.len]; exact hi)]
        intro z
        cases z
        exact no j xs' e1 e3
      · rw [List.getElem?_set_ne hk] at e2 ⊢
        exact h.apart j k q xs' ys n e1 e2 e3
/-- a name's own list becomes one that nobody changes any more -/
theorem EnvOk.freeze (h : EnvOk K B σ H F C ρ) (i : Nat) : ∃ F', EnvOk K B σ H F' C (frz i ρ) ∧ Same F F' ∧ ∀ b, B b ≠ none → F b = none → F' b = none := by
  unfold frz
  cases e : ρ[i]? with
  | none => exact ⟨F, h, Same.refl _, fun _ _ z => z⟩
  | some s =>
    cases s with
    | no => exact ⟨F, h, Same.refl _, fun _ _ z => z⟩
    | fz d => exact ⟨F, h, Same.refl _, fun _ _ z => z⟩
    | ow xs =>
      obtain ⟨p, vs, e1, hp, r, b, f, c⟩ := h.slot i _ e
      have sm : Same F (upd F p (.lst vs)) := upd_sub f
      refine ⟨upd F p (.lst vs), ⟨⟨fun a o q => ?_, fun a q => ⟨(h.hf.cup a q).1, ?_⟩⟩, h.base, h.cupB, by simpa using h.len, fun j x q => ?_, fun j k q' xs' ys n e1' e2 e3 => ?_⟩, sm, fun a n q => ?_⟩
      · by_cases ha : a = p
        · subst ha; rw [upd_same] at q; cases q; exact hp
        · rw [upd_ne ha] at q; exact h.hf.sub a o q
      · rw [upd_ne (fun z : a = p => c (z ▸ q))]; exact (h.hf.cup a q).2
      · by_cases hj : i = j
        · subst hj
          have hi : i < ρ.length := (List.getElem?_eq_some_iff.mp e).1
          rw [List.getElem?_set_self hi] at q
          cases q
          exact ⟨.ref p, e1, .lst upd_same (r.mono sm fun _ z => z)⟩
        · rw [List.getElem?_set_ne hj] at q
          have z := h.slot j x q
          cases x with
          | no => trivial
          | fz d =>
            obtain ⟨v, e1, r⟩ := z
            exact ⟨v, e1, r.mono sm fun _ z => z⟩
          | ow ys =>
            obtain ⟨p', vs', e1', hp', r', b', f', c'⟩ := z
            refine ⟨p', vs', e1', hp', r'.mono sm fun _ z => z, b', ?_, c'⟩
            rw [upd_ne]
            · exact f'
            · intro w
              subst w
              exact h.apart i j p' xs ys hj e q e1 e1'
      · have own : ∀ (k : Nat) (zs : List D), (ρ.set i (.fz (.lst xs)))[k]? = some (.ow zs) → ρ[k]? = some (.ow zs) := fun k zs e => by
          by_cases hk : i = k
          · subst hk
            have hi : i < ρ.length := by
              have := (List.getElem?_eq_some_iff.mp e).1
              simpa using this
            rw [List.getElem?_set_self hi] at e
            cases e
          · rw [List.getElem?_set_ne hk] at e
            exact e
        exact h.apart j k q' xs' ys n (own j xs' e1') (own k ys e2) e3
      · rw [upd_ne (fun z : a = p => n (z ▸ b))]; exact q
end

/-! ### the judgements -/
abbrev RK := PySem.W.Frag → Hp → Hp → Hp → Option Addr → V → D → Prop
abbrev RF : RK := fun K _ F _ C v d => Rp K F C v d
abbrev RB : RK := fun K _ F H C v d => RpB K F H C v d
abbrev RN : RK := fun K H0 F H C v d => RpN K H0 F H C v d
def tG (K : PySem.W.Frag) (R : RK) (f : FE) : TE := fun σ H Q => ∃ B F C ρ, EnvOk K B σ H F C ρ ∧ (f ρ).All fun d => ∀ v H' F' C', Step H F C H' F' C' → R K H F' H' C' v d → Q v H'
abbrev CG (X : Cx) (R : RK) (e : Expr) (f : FE) : Prop := PE X e (tG X.K R f)
abbrev CF (X : Cx) : Expr → FE → Prop := CG X RF
abbrev CB (X : Cx) : Expr → FE → Prop := CG X RB
abbrev CN (X : Cx) : Expr → FE → Prop := CG X RN
theorem pe_mono {X : Cx} {e : Expr} {t t' : TE} (h : PE X e t) (i : ∀ σ H Q, t' σ H Q → t σ H Q) : PE X e t' := ⟨fun pins s σ H Q I q => h.run pins s σ H Q I (i σ H Q q)⟩
theorem pt_mono {X : Cx} {e : Expr} {t t' : TT} (h : PT X e t) (i : ∀ σ H Q, t' σ H Q → t σ H Q) : PT X e t' := ⟨fun pins s σ H Q I q => h.run pins s σ H Q I (i σ H Q q)⟩
theorem pw_mono {X : Cx} {e : Expr} {t t' : TT} (h : PW X e t) (i : ∀ σ H Q, t' σ H Q → t σ H Q) : PW X e t' := ⟨fun wh pins s σ H Q I q => h.run wh pins s σ H Q I (i σ H Q q)⟩
theorem pa_mono {X : Cx} {e : List Expr} {t t' : TA} (h : PA X e t) (i : ∀ σ H Q, t' σ H Q → t σ H Q) : PA X e t' := ⟨fun pos pins s σ H Q I q => h.run pos pins s σ H Q I (i σ H Q q)⟩
theorem ps_mono {X : Cx} {e : Stmt} {t t' : TS} (h : PS X e t) (i : ∀ D σ H, t' D σ H → t D σ H) : PS X e t' := ⟨fun pins s σ H D I q => h.run pins s σ H D I (i D σ H q)⟩
theorem pss_mono {X : Cx} {e : List Stmt} {t t' : TS} (h : PSs X e t) (i : ∀ D σ H, t' D σ H → t D σ H) : PSs X e t' := ⟨fun pins s σ H D I q => h.run pins s σ H D I (i D σ H q)⟩
theorem pg_mono {X : Cx} {e : Expr} {t t' : TG} (h : PG X e t) (i : ∀ v σ H Q, t' v σ H Q → t v σ H Q) : PG X e t' := ⟨fun pins s σ H v u Q I r q => h.run pins s σ H v u Q I r (i v σ H Q q)⟩
theorem pi_mono {X : Cx} {tg e : Expr} {t t' : TI} (h : PI X tg e t) (i : ∀ σ H R, t' σ H R → t σ H R) : PI X tg e t' := ⟨fun pins s σ H R I q => h.run pins s σ H R I (i σ H R q)⟩
section
variable {X : Cx} {e : Expr} {f : FE}
theorem CG.weak {R R' : RK} (h : CG X R e f) (w : ∀ K H F C H' F' C' v d, Step H F C H' F' C' → R K H F' H' C' v d → ∃ F'', Step H F C H' F'' C' ∧ R' K H F'' H' C' v d) : CG X R' e f :=
  pe_mono h fun σ H Q ⟨B, F, C, ρ, E, q⟩ => ⟨B, F, C, ρ, E, q.mono fun d k v H' F' C' s r => by
    obtain ⟨F'', s', r'⟩ := w _ _ _ _ _ _ _ _ _ s r
    exact k v H' F'' C' s' r'⟩
theorem CF.cb (h : CF X e f) : CB X e f := CG.weak h fun _ _ _ _ _ F' _ _ _ s r => ⟨F', s, .inl r⟩
theorem CN.cf (h : CN X e f) : CF X e f := CG.weak h fun _ _ _ _ _ F' _ _ _ s r => by
  obtain ⟨p, vs, xs, rfl, rfl, np, hp, fp, cp, rs⟩ := r
  exact ⟨upd F' p (.lst vs), s.freeze np hp fp cp, .lst upd_same (rs.mono (upd_sub fp) fun _ z => z)⟩
theorem CN.cb (h : CN X e f) : CB X e f := (CN.cf h).cb
end
end WK
end

section
set_option Elab.async false
set_option linter.all false
set_option maxRecDepth 100000
/-! Expressions. -/
namespace WK
open PySem L2

/-! ### data -/
mutual
def toPy : D → PyData
  | .non => .none
  | .bl b => .bool b
  | .int i => .int i
  | .str s => .str (SS s)
  | .tup xs => .tuple (toPys xs)
  | .lst xs => .list (toPys xs)
  | .cup => .none
  | .scr => .none
def toPys : List D → List PyData
  | [] => []
  | x :: xs => toPy x :: toPys xs
end
theorem ok_cons {n : Nat} {x : D} {xs : List D} (h : (x :: xs).all (D.ok n) = true) : D.ok n x = true ∧ xs.all (D.ok n) = true := by
  rw [List.all_cons, Bool.and_eq_true] at h
  exact h
mutual
theorem plain_ok : ∀ (d : D) (n : Nat), D.ok n d = true → (toPy d).plain = true ∧ (toPy d).depth ≤ n
  | .non, n, h => ⟨rfl, by simp [toPy, PyData.depth]⟩
  | .bl _, n, h => ⟨rfl, by simp [toPy, PyData.depth]⟩
  | .int _, n, h => ⟨rfl, by simp [toPy, PyData.depth]⟩
  | .str _, n, h => ⟨rfl, by simp [toPy, PyData.depth]⟩
  | .tup xs, 0, h => by simp [D.ok] at h
  | .tup xs, n + 1, h => by
    have h' : xs.all (D.ok n) = true := by simpa [D.ok] using h
    obtain ⟨a, b⟩ := plain_oks xs n h'
    exact ⟨by simpa [toPy, PyData.plain] using a, by simp only [toPy, PyData.depth]; omega⟩
  | .lst xs, 0, h => by simp [D.ok] at h
  | .lst xs, n + 1, h => by
    have h' : xs.all (D.ok n) = true := by simpa [D.ok] using h
    obtain ⟨a, b⟩ := plain_oks xs n h'
    exact ⟨by simpa [toPy, PyData.plain] using a, by simp only [toPy, PyData.depth]; omega⟩
  | .cup, n, h => by cases n <;> simp [D.ok] at h
  | .scr, n, h => by cases n <;> simp [D.ok] at h
theorem plain_oks : ∀ (xs : List D) (n : Nat), xs.all (D.ok n) = true → PyData.plainAll (toPys xs) = true ∧ PyData.depthAll (toPys xs) ≤ n
  | [], n, h => ⟨rfl, by simp [toPys, PyData.depthAll]⟩
  | x :: xs, n, h => by
    obtain ⟨h1, h2⟩ := ok_cons h
    obtain ⟨a, b⟩ := plain_ok x n h1
    obtain ⟨c, d⟩ := plain_oks xs n h2
    exact ⟨by simp [toPys, PyData.plainAll, a, c], by simp only [toPys, PyData.depthAll]; omega⟩
end
theorem ss_beq (x y : List Nat) : (SS x == SS y) = (x == y) := by
  rw [Bool.eq_iff_iff]
  simp [SS]
mutual
theorem eqv_toPy : ∀ (a b : D) (n m : Nat), D.ok n a = true → D.ok m b = true → PyData.eqv (toPy a) (toPy b) = D.eq a b
  | .non, b, n, m, h, k => by cases b <;> first | rfl | (cases m <;> simp [D.ok] at k)
  | .bl x, b, n, m, h, k => by cases b <;> first | rfl | (cases m <;> simp [D.ok] at k)
  | .int x, b, n, m, h, k => by cases b <;> first | rfl | (cases m <;> simp [D.ok] at k)
  | .str x, b, n, m, h, k => by
    cases b with
    | str y => simp only [toPy, PyData.eqv, D.eq, ss_beq]
    | cup => cases m <;> simp [D.ok] at k
    | scr => cases m <;> simp [D.ok] at k
    | _ => rfl
  | .tup xs, b, n, m, h, k => by
    cases b with
    | tup ys =>
      cases n with
      | zero => simp [D.ok] at h
      | succ n =>
        cases m with
        | zero => simp [D.ok] at k
        | succ m =>
          simp only [toPy, PyData.eqv, D.eq]
          exact eqv_toPys xs ys n m (by simpa [D.ok] using h) (by simpa [D.ok] using k)
    | cup => cases m <;> simp [D.ok] at k
    | scr => cases m <;> simp [D.ok] at k
    | _ => rfl
  | .lst xs, b, n, m, h, k => by
    cases b with
    | lst ys =>
      cases n with
      | zero => simp [D.ok] at h
      | succ n =>
        cases m with
        | zero => simp [D.ok] at k
        | succ m =>
          simp only [toPy, PyData.eqv, D.eq]
          exact eqv_toPys xs ys n m (by simpa [D.ok] using h) (by simpa [D.ok] using k)
    | cup => cases m <;> simp [D.ok] at k
    | scr => cases m <;> simp [D.ok] at k
    | _ => rfl
  | .cup, b, n, m, h, k => by cases n <;> simp [D.ok] at h
  | .scr, b, n, m, h, k => by cases n <;> simp [D.ok] at h
theorem eqv_toPys : ∀ (xs ys : List D) (n m : Nat), xs.all (D.ok n) = true → ys.all (D.ok m) = true → PyData.eqvAll (toPys xs) (toPys ys) = D.eqs xs ys
  | [], [], _, _, _, _ => rfl
  | [], _ :: _, _, _, _, _ => rfl
  | _ :: _, [], _, _, _, _ => rfl
  | x :: xs, y :: ys, n, m, h, k => by
    simp only [toPys, PyData.eqvAll, D.eqs]
    rw [eqv_toPy x y n m (ok_cons h).1 (ok_cons k).1, eqv_toPys xs ys n m (ok_cons h).2 (ok_cons k).2]
end

section
variable {X : Cx} {pins : List (Addr × Obj)} {σ : St} {H F : Hp} {C : Option Addr} {s : Shared}
mutual
theorem Rp.reads (I : Inv X pins σ H s) (hF : Same F H) : ∀ (d : D) (v : V) (u : Value) (n : Nat), D.ok n d = true → Rp X.K F C v d → RelV v u → ∃ as, Reads s.heap u (toPy d) as
  | .non, _, _, _, _, h, r => by cases h; cases r; exact ⟨_, Reads.none⟩
  | .bl b, _, _, _, _, h, r => by cases h; cases r; exact ⟨_, Reads.bool b⟩
  | .int i, _, _, _, _, h, r => by cases h; obtain ⟨t, rfl⟩ := r; exact ⟨_, Reads.int i t⟩
  | .str i, _, _, _, _, h, r => by cases h; obtain ⟨t, rfl⟩ := r; exact ⟨_, Reads.str _ t⟩
  | .tup ds, _, _, 0, ok, h, r => by simp [D.ok] at ok
  | .tup ds, _, _, n + 1, ok, h, r => by
    cases h with
    | tup hs ha =>
      cases r
      obtain ⟨its, rv, ⟨o, ho, hc, k, hd⟩, _⟩ := I.tuple (sameT hF hs)
      obtain ⟨as, hr⟩ := Rps.readsAll I hF ds _ its n (by simpa [D.ok] using ok) ha rv
      exact ⟨_, Reads.tuple ho hc hd hr⟩
  | .lst ds, _, _, 0, ok, h, r => by simp [D.ok] at ok
  | .lst ds, _, _, n + 1, ok, h, r => by
    cases h with
    | lst hs ha =>
      cases r
      obtain ⟨its, rv, ⟨o, k, ho, hc, _, hd⟩, _⟩ := I.list (.of (hF _ _ hs))
      obtain ⟨as, hr⟩ := Rps.readsAll I hF ds _ its n (by simpa [D.ok] using ok) ha rv
      exact ⟨_, Reads.list ho hc hd hr⟩
  | .cup, _, _, n, ok, _, _ => by cases n <;> simp [D.ok] at ok
  | .scr, _, _, n, ok, _, _ => by cases n <;> simp [D.ok] at ok
theorem Rps.readsAll (I : Inv X pins σ H s) (hF : Same F H) : ∀ (ds : List D) (vs : List V) (us : List Value) (n : Nat), ds.all (D.ok n) = true → Rps X.K F C vs ds → Vals vs us → ∃ as, ReadsAll s.heap us (toPys ds) as
  | [], _, _, _, _, h, r => by cases h; cases r; exact ⟨_, ReadsAll.nil⟩
  | d :: ds, _, _, n, ok, h, r => by
    cases h with
    | cons h1 h2 =>
      cases r with
      | cons r1 r2 =>
        obtain ⟨as, q1⟩ := Rp.reads I hF d _ _ n (ok_cons ok).1 h1 r1
        obtain ⟨bs, q2⟩ := Rps.readsAll I hF ds _ _ n (ok_cons ok).2 h2 r2
        exact ⟨_, ReadsAll.cons q1 q2⟩
end
theorem RpB.reads (I : Inv X pins σ H s) (hf : HF H F C) {d : D} {v : V} {u : Value} {n : Nat} (ok : D.ok n d = true) (h : RpB X.K F H C v d) (r : RelV v u) : ∃ as, Reads s.heap u (toPy d) as := by
  rcases h with h | ⟨p, vs, xs, rfl, rfl, hp, c, rs⟩
  · exact h.reads I hf.sub d v u n ok r
  · cases n with
    | zero => simp [D.ok] at ok
    | succ n =>
      cases r
      obtain ⟨its, rv, ⟨o, k, ho, hc, _, hd⟩, _⟩ := I.list (.of hp)
      obtain ⟨as, hr⟩ := Rps.readsAll I hf.sub xs _ its n (by simpa [D.ok] using ok) rs rv
      exact ⟨_, Reads.list ho hc hd hr⟩
end

/-! ### operators: what the values' operation g promises -/
def rG (K : PySem.W.Frag) (g : D → D → M D) : R2 := fun x y H Q => ∃ F C a b, HF H F C ∧ RpB K F H C x a ∧ RpB K F H C y b ∧ (g a b).All fun d => ∀ v H' F' C', Step H F C H' F' C' → Rp K F' C' v d → Q v H'
abbrev OG (X : Cx) (f : Value → Value → Sem Value) (g : D → D → M D) : Prop := OpR X f (rG X.K g)
/-- .. where it makes a new list -/
def rN (K : PySem.W.Frag) (g : D → D → M D) : R2 := fun x y H Q => ∃ F C a b, HF H F C ∧ RpB K F H C x a ∧ RpB K F H C y b ∧ (g a b).All fun d => ∀ v H' F' C', Step H F C H' F' C' → RpN K H F' H' C' v d → Q v H'
abbrev ON (X : Cx) (f : Value → Value → Sem Value) (g : D → D → M D) : Prop := OpR X f (rN X.K g)
theorem opr_mono {X : Cx} {f : Value → Value → Sem Value} {r r' : R2} (h : OpR X f r) (i : ∀ x y H Q, r' x y H Q → r x y H Q) : OpR X f r' := fun pins s σ H x y v u Q I rx ry q => h pins s σ H x y v u Q I rx ry (i x y H Q q)

section
variable {X : Cx} {K : PySem.W.Frag} {H F : Hp} {C : Option Addr}
/-- an answer that is no new thing -/
theorem out {Q : VK} {d : D} {v : V} (hf : HF H F C) (h : (M.ret d).All fun d => ∀ v H' F' C', Step H F C H' F' C' → Rp K F' C' v d → Q v H') (r : Rp K F C v d) : Q v H := h v H F C hf.refl r
/-- a new tuple, a new list -/
theorem outT {Q : VK} {ds : List D} {vs : List V} (hf : HF H F C) (h : (M.ret (.tup ds)).All fun d => ∀ v H' F' C', Step H F C H' F' C' → Rp K F' C' v d → Q v H') (r : Rps K F C vs ds) : ∀ p, H p = none → Q (.ref p) (upd H p (.tup vs)) :=
  fun p np => h _ _ _ _ (hf.laidF np) (.tup (.of upd_same) (r.mono (upd_sub (hf.notNew np).1) fun _ z => z))
theorem outL {Q : VK} {ds : List D} {vs : List V} (hf : HF H F C) (h : (M.ret (.lst ds)).All fun d => ∀ v H' F' C', Step H F C H' F' C' → Rp K F' C' v d → Q v H') (r : Rps K F C vs ds) : ∀ p, H p = none → Q (.ref p) (upd H p (.lst vs)) :=
  fun p np => h _ _ _ _ (hf.laidF np) (.lst upd_same (r.mono (upd_sub (hf.notNew np).1) fun _ z => z))
theorem outN {Q : VK} {ds : List D} {vs : List V} (hf : HF H F C) (h : (M.ret (.lst ds)).All fun d => ∀ v H' F' C', Step H F C H' F' C' → RpN K H F' H' C' v d → Q v H') (r : Rps K F C vs ds) : ∀ p, H p = none → Q (.ref p) (upd H p (.lst vs)) :=
  fun p np => h _ _ _ _ (hf.laid np) ⟨p, vs, ds, rfl, rfl, np, upd_same, (hf.notNew np).1, (hf.notNew np).2, r⟩
theorem all_fit {P : D → Prop} {n : Nat} {m : M D} (h : (fit n m).All P) : n ≤ sizeMax ∧ m.All P := by
  unfold fit at h
  split at h
  · exact ⟨by assumption, h⟩
  · exact h.elim
theorem all_if {α : Type} {P : α → Prop} {c : Prop} [Decidable c] {m : M α} (h : (if c then m else .bad).All P) : c ∧ m.All P := by
  split at h
  · exact ⟨by assumption, h⟩
  · exact h.elim
theorem fits {n : Nat} (h : n ≤ sizeMax) : n < sizeLine := Nat.lt_of_le_of_lt h (by decide)
theorem ss_append (a b : List Nat) : SS a ++ SS b = SS (a ++ b) := by
  show Str.mk (a.toArray ++ b.toArray) = Str.mk (a ++ b).toArray
  simp
theorem ss_length (a : List Nat) : (SS a).length = a.length := List.size_toArray

/-- all pairs of kinds but those told are refused -/
theorem og_add : OG X (binaryOp .Add) gAdd := by
  intro pins s σ H x y v u Q I rx ry h
  obtain ⟨F, C, a, b, hf, ra, rb, h⟩ := h
  cases a with
  | int i =>
    cases b with
    | int j =>
      cases ra.int; cases rb.int
      exact op_add pins s σ H _ _ v u Q I rx ry ⟨i, j, rfl, rfl, out hf h (.int _)⟩
    | _ => exact h.elim
  | str i =>
    cases b with
    | str j =>
      cases ra.str; cases rb.str
      obtain ⟨hz, h⟩ := all_fit h
      refine op_add_str pins s σ H _ _ v u Q I rx ry ⟨_, _, rfl, rfl, ?_, ?_⟩
      · rw [ss_length, ss_length]; exact Nat.le_of_lt (fits hz)
      · rw [ss_append]; exact out hf h (.str _)
    | _ => exact h.elim
  | lst xs =>
    cases b with
    | lst ys =>
      obtain ⟨p, vs, rfl, hp, rp⟩ := ra.list hf
      obtain ⟨q, ws, rfl, hq, rq⟩ := rb.list hf
      obtain ⟨hz, h⟩ := all_fit h
      exact op_cat pins s σ H _ _ v u Q I rx ry ⟨p, q, vs, ws, rfl, rfl, hp, hq, by rw [rp.length, rq.length]; exact Nat.le_of_lt (fits hz), outL hf h (rp.append rq)⟩
    | _ => exact h.elim
  | tup xs =>
    cases b with
    | tup ys =>
      obtain ⟨p, vs, rfl, hpF, hp, rp⟩ := ra.tup hf
      obtain ⟨q, ws, rfl, hqF, hq, rq⟩ := rb.tup hf
      obtain ⟨hz, h⟩ := all_fit h
      refine op_catA pins s σ H _ _ v u Q I rx ry ⟨p, q, vs, ws, rfl, rfl, hp, hq, by rw [rp.length, rq.length]; exact Nat.le_of_lt (fits hz), fun e => ?_, fun _ e => ?_, fun _ _ => outT hf h (rp.append rq)⟩
      · subst e; cases rp.nilV; exact out hf h (.tup hqF rq)
      · subst e; cases rq.nilV; rw [List.append_nil] at h; exact out hf h (.tup hpF rp)
    | _ => exact h.elim
  | _ => exact h.elim
/-- a new list of two -/
def gCat : D → D → M D
  | .lst a, .lst b => fit (a.length + b.length) (.ret (.lst (a ++ b)))
  | _, _ => .bad
theorem on_cat : ON X (binaryOp .Add) gCat := by
  intro pins s σ H x y v u Q I rx ry h
  obtain ⟨F, C, a, b, hf, ra, rb, h⟩ := h
  cases a with
  | lst xs =>
    cases b with
    | lst ys =>
      obtain ⟨p, vs, rfl, hp, rp⟩ := ra.list hf
      obtain ⟨q, ws, rfl, hq, rq⟩ := rb.list hf
      obtain ⟨hz, h⟩ := all_fit h
      exact op_cat pins s σ H _ _ v u Q I rx ry ⟨p, q, vs, ws, rfl, rfl, hp, hq, by rw [rp.length, rq.length]; exact Nat.le_of_lt (fits hz), outN hf h (rp.append rq)⟩
    | _ => exact h.elim
  | _ => exact h.elim
theorem og_sub : OG X (binaryOp .Sub) gSub := by
  intro pins s σ H x y v u Q I rx ry h
  obtain ⟨F, C, a, b, hf, ra, rb, h⟩ := h
  cases a with
  | int i =>
    cases b with
    | int j =>
      cases ra.int; cases rb.int
      exact op_sub pins s σ H _ _ v u Q I rx ry ⟨i, j, rfl, rfl, out hf h (.int _)⟩
    | _ => exact h.elim
  | _ => exact h.elim
theorem og_div : OG X (binaryOp .FloorDiv) gDiv := by
  intro pins s σ H x y v u Q I rx ry h
  obtain ⟨F, C, a, b, hf, ra, rb, h⟩ := h
  cases a with
  | int i =>
    cases b with
    | int j =>
      cases ra.int; cases rb.int
      obtain ⟨hc, h⟩ := all_if h
      exact op_fdiv pins s σ H _ _ v u Q I rx ry ⟨i, j, rfl, rfl, ⟨hc.1, by omega⟩, out hf h (.int _)⟩
    | _ => exact h.elim
  | _ => exact h.elim
theorem og_mod : OG X (binaryOp .Mod) gMod := by
  intro pins s σ H x y v u Q I rx ry h
  obtain ⟨F, C, a, b, hf, ra, rb, h⟩ := h
  cases a with
  | int i =>
    cases b with
    | int j =>
      cases ra.int; cases rb.int
      obtain ⟨hc, h⟩ := all_if h
      exact op_mod pins s σ H _ _ v u Q I rx ry ⟨i, j, rfl, rfl, hc, out hf h (.int _)⟩
    | _ => exact h.elim
  | _ => exact h.elim
theorem flat_foldl (a : List Nat) : ∀ (k : Nat) (z : Array Nat), (List.replicate k a.toArray).foldl (· ++ ·) z = z ++ (List.replicate k a).flatten.toArray
  | 0, z => by simp
  | k + 1, z => by
    rw [List.replicate_succ, List.foldl_cons, flat_foldl a k, List.replicate_succ, List.flatten_cons, Array.append_assoc]
    congr 1
    exact Array.ext' (by rw [Array.toList_append])
theorem int_lt_div {l k : Nat} (hk : 1 ≤ k) (h : l * k ≤ 15000000) : ¬ ((l : Int) > (2 ^ 63 - 1) / (k : Int)) := by
  intro q
  have h2 : (l : Int) * (k : Int) ≤ 15000000 := by
    rw [← Int.natCast_mul]
    omega
  have h3 : (l : Int) ≤ (2 ^ 63 - 1) / (k : Int) := by
    rw [Int.le_ediv_iff_mul_le (by omega)]
    omega
  omega
theorem tuple_mulW1 (l : Addr) (items : Array Value) (n : Nat) (dd : Option Addr) (sl : Array (Option Value)) (u : Tok) :
    Meets (Builtin.«tuple.__mul__» ⟨[.ref l, .int 1 u], []⟩) (fun _ R s => s.heap.get? l = some { cls := .type "tuple", dict := dd, data := .seq items n, slots := sl } ∧ R (.ok (.ret (Value.ref l))) s) :=
  .of_wp fun prog w A R s h => by
    obtain ⟨hp, g, d, tk, os⟩ := s
    obtain ⟨hl, h⟩ := h
    have f1 := PySem.AutoSeq1.idx_int
    have c1 : (items.isEmpty || (1 : Int) == 1) = true := by simp
    have c0 : (decide ((1 : Int) < -(2 ^ 63)) || decide ((1 : Int) ≥ 2 ^ 63)) = false := by decide
    wp_walk using wpAny_loadPart' hl
    repeat (first
      | (refine wpAny_ite_false (decide_eq_false (by rw [c0]; exact Bool.false_ne_true)) ?_; wp_walk using wpAny_loadPart' hl)
      | (refine wpAny_ite_true (decide_eq_true c1) ?_; wp_walk using wpAny_loadPart' hl))
    exact ⟨_, rfl, h⟩
theorem og_mulT {pins : List (Addr × Obj)} {s : Shared} {σ : St} {x y : V} {v u : Value} {Q : VK} {xs : List D} {j : Int} (I : Inv X pins σ H s) (rx : RelV x v) (ry : RelV y u) (hf : HF H F C) (ra : RpB X.K F H C x (.tup xs)) (rb : RpB X.K F H C y (.int j))
    (h : (gMul (.tup xs) (.int j)).All fun d => ∀ v H' F' C', Step H F C H' F' C' → Rp X.K F' C' v d → Q v H') : wpAny (model X.prog X.w) X.A (binaryOp .Mult v u) (EP X pins σ Q) X.xe s := by
  obtain ⟨p, vs, rfl, hpF, hp, rp⟩ := ra.tup hf
  cases rb.int
  obtain ⟨⟨h1, h2, h3, h4⟩, h⟩ := all_if h
  by_cases hj : j = 1
  · subst hj
    cases rx
    obtain ⟨t, rfl⟩ := ry
    have e : (List.replicate (1 : Int).toNat xs).flatten = xs := by simp
    rw [e] at h
    obtain ⟨its, r, ⟨⟨cls, dd, data, sl⟩, ho, hc, n, hd⟩, hs⟩ := I.tuple hp
    simp only at hc hd
    subst hc hd
    exact wpAny_binaryOp_repeat_ref (T := "tuple") (U := "int") (by decide) ⟨_, ho, rfl⟩ (fun s' => typeIs_int s' 1 t) noFill_tuple_mul PySem.F.fills_int_mul PySem.F.slot_int_rmul repeat_tuple PySem.F.slot_int_index.lookup
      (call_meets PySem.F.slot_int_rmul (typeIs_int s 1 t) PySem.F.entry_int_rmul (PySem.F.args_int_rmul_2 _ _) (int_rmul_tuple 1 t p its.toArray n dd sl)
        ⟨ho, rfl, ⟨_, ho, rfl⟩, call_meets PySem.F.slot_tuple_mul ⟨_, ho, rfl⟩ PySem.F.entry_tuple_mul (PySem.F.args_tuple_mul_2 _ _) (tuple_mulW1 p its.toArray n dd sl t) ⟨ho, ⟨.ref p, H, I, rfl, out hf h (.tup hpF rp)⟩⟩⟩)
  · refine op_repT pins s σ H _ _ v u Q I rx ry ⟨p, j, vs, rfl, rfl, hp, fun e => ?_, by omega, by omega, by rw [rp.length]; exact h2, outT hf h (rp.flat _)⟩
    subst e
    cases rp.nilV
    simp at h4
theorem og_mul : OG X (binaryOp .Mult) gMul := by
  intro pins s σ H x y v u Q I rx ry h
  obtain ⟨F, C, a, b, hf, ra, rb, h⟩ := h
  cases a with
  | int i =>
    cases b with
    | int j =>
      cases ra.int; cases rb.int
      obtain ⟨hc, h⟩ := all_if h
      refine op_mul pins s σ H _ _ v u Q I rx ry ⟨i, j, rfl, rfl, ?_, out hf h (.int _)⟩
      rw [Bool.or_eq_true] at hc
      rcases hc with hc | hc
      · have hc : i.natAbs < 18446744073709551616 := of_decide_eq_true hc
        exact .inl ⟨by omega, by omega⟩
      · have hc : j.natAbs < 18446744073709551616 := of_decide_eq_true hc
        exact .inr ⟨by omega, by omega⟩
    | _ => exact h.elim
  | str i =>
    cases b with
    | int j =>
      cases ra.str; cases rb.int
      obtain ⟨⟨h1, h2, h3⟩, h⟩ := all_if h
      obtain ⟨t, rfl⟩ := rx
      obtain ⟨t', rfl⟩ := ry
      have q : Q (.str (SS (List.replicate j.toNat i).flatten)) H := out hf h (.str _)
      have hm : i.length * j.toNat ≤ 15000000 := by
        have : i.length * j.toNat ≤ 15 * 1000000 := Nat.mul_le_mul h2 (by omega)
        omega
      refine PySem.P.mul_str ?_ (fun h4 _ => ?_) (fun _ _ => ?_) ?_
      · rw [decide_eq_false (by omega), decide_eq_false (by omega)]; rfl
      · rw [ss_length]
        have := int_lt_div (l := i.length) (k := j.toNat) (by omega) hm
        rw [Int.toNat_of_nonneg h3] at this
        exact this
      · rw [ss_length]
        unfold Builtin.Str.tooLong
        first
          | exact decide_eq_false (by rw [sizeLine_eq]; omega)
          | (simp [sizeLine_eq]; omega)
      · by_cases h0 : j < 1
        · rw [if_pos h0]
          have e : j.toNat = 0 := by omega
          rw [e] at q
          exact ⟨by decide, ⟨.str (SS []), H, I.tok _, ⟨_, rfl⟩, q⟩⟩
        · rw [if_neg h0]
          by_cases h1 : (j == 1 || (SS i).length == 0) = true
          · rw [if_pos h1]
            rw [Bool.or_eq_true] at h1
            have e : (List.replicate j.toNat i).flatten = i := by
              rcases h1 with h1 | h1
              · rw [eq_of_beq h1]; simp
              · have : i.length = 0 := by rw [← ss_length]; exact eq_of_beq h1
                have : i = [] := List.eq_nil_of_length_eq_zero this
                subst this; simp
            rw [e] at q
            exact ⟨.str (SS i), H, I, ⟨_, rfl⟩, q⟩
          · rw [if_neg h1]
            have e : (⟨(List.replicate j.toNat (SS i).cps).foldl (· ++ ·) #[]⟩ : Str) = SS (List.replicate j.toNat i).flatten := by
              show Str.mk ((List.replicate j.toNat i.toArray).foldl (· ++ ·) #[]) = _
              rw [flat_foldl]; simp
            rw [e]
            refine ⟨?_, ⟨.str _, H, I.tok _, ⟨_, rfl⟩, q⟩⟩
            rw [ss_length, List.length_flatten, List.map_replicate, List.sum_replicate_nat, sizeLine_eq, Nat.mul_comm]
            omega
    | _ => exact h.elim
  | lst xs =>
    cases b with
    | int j =>
      obtain ⟨p, vs, rfl, hp, rp⟩ := ra.list hf
      cases rb.int
      obtain ⟨⟨h1, h2, h3⟩, h⟩ := all_if h
      refine op_rep pins s σ H _ _ v u Q I rx ry ⟨p, j, vs, rfl, rfl, hp, by omega, by omega, ?_, outL hf h (rp.flat _)⟩
      rw [rp.length, sizeLine_eq]
      have : xs.length * j.toNat ≤ 15 * 1000000 := Nat.mul_le_mul h2 (by omega)
      omega
    | _ => exact h.elim
  | tup xs =>
    cases b with
    | int j => exact og_mulT I rx ry hf ra rb h
    | _ => exact h.elim
  | _ => exact h.elim
end
end WK
end

section
set_option Elab.async false
set_option linter.all false
set_option maxRecDepth 100000
/-! Comparisons. -/
namespace WK
open PySem L2
section
variable {X : Cx} {K : PySem.W.Frag} {H F : Hp} {C : Option Addr}
theorem units_ok {A : Around} {k : Nat} (hr : Room k A) {da db : PyData} {n m : Nat} (a : da.depth ≤ n) (hn : n ≤ 30) : A.units + min da.depth db.depth < cLine := by
  have h1 := hr.units
  have h2 : min da.depth db.depth ≤ da.depth := Nat.min_le_left _ _
  omega
theorem og_eq {k : Nat} (hr : Room k X.A) : OG X (compareOp .Eq) gEq := by
  intro pins s σ H x y v u Q I rx ry h
  obtain ⟨F, C, a, b, hf, ra, rb, h⟩ := h
  obtain ⟨hc, h⟩ := all_if h
  rw [Bool.and_eq_true] at hc
  obtain ⟨as, r1⟩ := ra.reads I hf hc.1 rx
  obtain ⟨bs, r2⟩ := rb.reads I hf hc.2 ry
  obtain ⟨p1, d1⟩ := plain_ok a _ hc.1
  obtain ⟨p2, d2⟩ := plain_ok b _ hc.2
  refine PySem.SeqAt.eq_plain r1 r2 p1 p2 (units_ok (n := 20) (m := 20) hr d1 (by omega)) ?_
  rw [eqv_toPy a b _ _ hc.1 hc.2]
  exact ⟨.bl _, H, I, rfl, out hf h (.bl _)⟩
theorem og_ne {k : Nat} (hr : Room k X.A) : OG X (compareOp .NotEq) gNe := by
  intro pins s σ H x y v u Q I rx ry h
  obtain ⟨F, C, a, b, hf, ra, rb, h⟩ := h
  obtain ⟨hc, h⟩ := all_if h
  rw [Bool.and_eq_true] at hc
  obtain ⟨as, r1⟩ := ra.reads I hf hc.1 rx
  obtain ⟨bs, r2⟩ := rb.reads I hf hc.2 ry
  obtain ⟨p1, d1⟩ := plain_ok a _ hc.1
  obtain ⟨p2, d2⟩ := plain_ok b _ hc.2
  refine PySem.SeqAt.ne_plain r1 r2 p1 p2 (units_ok (n := 20) (m := 20) hr d1 (by omega)) ?_
  rw [eqv_toPy a b _ _ hc.1 hc.2]
  exact ⟨.bl _, H, I, rfl, out hf h (.bl _)⟩
theorem og_in {k : Nat} (hr : Room k X.A) : OG X (compareOp .In) gIn := by
  intro pins s σ H x y v u Q I rx ry h
  obtain ⟨F, C, a, b, hf, ra, rb, h⟩ := h
  have seq : ∀ (ds : List D) (b : D), b = .lst ds ∨ b = .tup ds → RpB X.K F H C y b → (if (D.ok 20 a && ds.all (D.ok 20)) = true then M.ret (.bl (ds.any fun y => D.eq y a)) else .bad).All (fun d => ∀ v H' F' C', Step H F C H' F' C' → Rp X.K F' C' v d → Q v H') →
      wpAny (model X.prog X.w) X.A (compareOp .In v u) (EP X pins σ Q) X.xe s := by
    intro ds b hb rb h
    obtain ⟨hc, h⟩ := all_if h
    rw [Bool.and_eq_true] at hc
    obtain ⟨as, r1⟩ := ra.reads I hf hc.1 rx
    obtain ⟨p1, d1⟩ := plain_ok a _ hc.1
    obtain ⟨p2, d2⟩ := plain_oks ds _ hc.2
    have hu : X.A.units + 1 + min (PyData.depthAll (toPys ds)) (toPy a).depth < cLine := by
      have h1 := hr.units
      have h2 : min (PyData.depthAll (toPys ds)) (toPy a).depth ≤ PyData.depthAll (toPys ds) := Nat.min_le_left _ _
      omega
    have e : ((toPys ds).any fun y => PyData.eqv y (toPy a)) = ds.any fun y => D.eq y a := by
      have : ∀ ds : List D, ds.all (D.ok 20) = true → ((toPys ds).any fun y => PyData.eqv y (toPy a)) = ds.any fun y => D.eq y a := by
        intro ds
        induction ds with
        | nil => intro _; rfl
        | cons z zs ih =>
          intro hz
          obtain ⟨z1, z2⟩ := ok_cons hz
          rw [toPys, List.any_cons, List.any_cons, ih z2, eqv_toPy z a _ _ z1 hc.1]
      exact this ds hc.2
    rcases hb with rfl | rfl
    · obtain ⟨bs, r2⟩ := rb.reads (n := 21) I hf (by simpa [D.ok] using hc.2) ry
      refine PySem.SeqAt.in_list_data r2 r1 p2 p1 hu ?_
      rw [e]
      exact ⟨.bl _, H, I, rfl, out hf h (.bl _)⟩
    · obtain ⟨bs, r2⟩ := rb.reads (n := 21) I hf (by simpa [D.ok] using hc.2) ry
      refine PySem.SeqAt.in_tuple_data r2 r1 p2 p1 hu ?_
      rw [e]
      exact ⟨.bl _, H, I, rfl, out hf h (.bl _)⟩
  cases b with
  | lst ds => exact seq ds _ (.inl rfl) rb (by cases a with | str z => (cases z with | nil => exact h | cons c r => cases r <;> exact h) | _ => exact h)
  | tup ds => exact seq ds _ (.inr rfl) rb (by cases a with | str z => (cases z with | nil => exact h | cons c r => cases r <;> exact h) | _ => exact h)
  | str z =>
    cases a with
    | str c =>
      cases c with
      | nil => exact h.elim
      | cons c r =>
        cases r with
        | nil =>
          cases ra.str; cases rb.str
          exact op_in_sign pins s σ H _ _ v u Q I rx ry ⟨c, SS z, rfl, rfl, out hf h (.bl _)⟩
        | cons _ _ => exact h.elim
    | _ => exact h.elim
  | _ =>
    cases a with
    | str c => (cases c with
      | nil => exact h.elim
      | cons c r => cases r <;> exact h.elim)
    | _ => exact h.elim
theorem og_notIn {k : Nat} (hr : Room k X.A) : OG X (compareOp .NotIn) gNotIn := by
  intro pins s σ H x y v u Q I rx ry h
  obtain ⟨F, C, a, b, hf, ra, rb, h⟩ := h
  have seq : ∀ (ds : List D) (b : D), b = .lst ds ∨ b = .tup ds → RpB X.K F H C y b → (if (D.ok 20 a && ds.all (D.ok 20)) = true then M.ret (.bl (!ds.any fun y => D.eq y a)) else .bad).All (fun d => ∀ v H' F' C', Step H F C H' F' C' → Rp X.K F' C' v d → Q v H') →
      wpAny (model X.prog X.w) X.A (compareOp .NotIn v u) (EP X pins σ Q) X.xe s := by
    intro ds b hb rb h
    obtain ⟨hc, h⟩ := all_if h
    rw [Bool.and_eq_true] at hc
    obtain ⟨as, r1⟩ := ra.reads I hf hc.1 rx
    obtain ⟨p1, d1⟩ := plain_ok a _ hc.1
    obtain ⟨p2, d2⟩ := plain_oks ds _ hc.2
    have hu : X.A.units + 1 + min (PyData.depthAll (toPys ds)) (toPy a).depth < cLine := by
      have h1 := hr.units
      have h2 : min (PyData.depthAll (toPys ds)) (toPy a).depth ≤ PyData.depthAll (toPys ds) := Nat.min_le_left _ _
      omega
    have e : ((toPys ds).any fun y => PyData.eqv y (toPy a)) = ds.any fun y => D.eq y a := by
      have : ∀ ds : List D, ds.all (D.ok 20) = true → ((toPys ds).any fun y => PyData.eqv y (toPy a)) = ds.any fun y => D.eq y a := by
        intro ds
        induction ds with
        | nil => intro _; rfl
        | cons z zs ih =>
          intro hz
          obtain ⟨z1, z2⟩ := ok_cons hz
          rw [toPys, List.any_cons, List.any_cons, ih z2, eqv_toPy z a _ _ z1 hc.1]
      exact this ds hc.2
    rcases hb with rfl | rfl
    · obtain ⟨bs, r2⟩ := rb.reads (n := 21) I hf (by simpa [D.ok] using hc.2) ry
      refine PySem.SeqAt.notIn_list_data r2 r1 p2 p1 hu ?_
      rw [e]
      exact ⟨.bl _, H, I, rfl, out hf h (.bl _)⟩
    · obtain ⟨bs, r2⟩ := rb.reads (n := 21) I hf (by simpa [D.ok] using hc.2) ry
      refine PySem.SeqAt.notIn_tuple_data r2 r1 p2 p1 hu ?_
      rw [e]
      exact ⟨.bl _, H, I, rfl, out hf h (.bl _)⟩
  cases b with
  | lst ds => exact seq ds _ (.inl rfl) rb (by cases a with | str z => (cases z with | nil => exact h | cons c r => cases r <;> exact h) | _ => exact h)
  | tup ds => exact seq ds _ (.inr rfl) rb (by cases a with | str z => (cases z with | nil => exact h | cons c r => cases r <;> exact h) | _ => exact h)
  | str z =>
    cases a with
    | str c =>
      cases c with
      | nil => exact h.elim
      | cons c r =>
        cases r with
        | nil =>
          cases ra.str; cases rb.str
          exact op_notIn_sign pins s σ H _ _ v u Q I rx ry ⟨c, SS z, rfl, rfl, out hf h (.bl _)⟩
        | cons _ _ => exact h.elim
    | _ => exact h.elim
  | _ =>
    cases a with
    | str c => (cases c with
      | nil => exact h.elim
      | cons c r => cases r <;> exact h.elim)
    | _ => exact h.elim

theorem og_lt : OG X (compareOp .Lt) gLt := by
  intro pins s σ H x y v u Q I rx ry h
  obtain ⟨F, C, a, b, hf, ra, rb, h⟩ := h
  cases a with
  | int i =>
    cases b with
    | int j => cases ra.int; cases rb.int; exact op_lt pins s σ H _ _ v u Q I rx ry ⟨i, j, rfl, rfl, out hf h (.bl _)⟩
    | _ => exact h.elim
  | str i =>
    cases b with
    | str j => cases ra.str; cases rb.str; exact op_lt_str pins s σ H _ _ v u Q I rx ry ⟨_, _, rfl, rfl, out hf h (.bl _)⟩
    | _ => exact h.elim
  | _ => exact h.elim
theorem og_le : OG X (compareOp .LtE) gLe := by
  intro pins s σ H x y v u Q I rx ry h
  obtain ⟨F, C, a, b, hf, ra, rb, h⟩ := h
  cases a with
  | int i =>
    cases b with
    | int j => cases ra.int; cases rb.int; exact op_le pins s σ H _ _ v u Q I rx ry ⟨i, j, rfl, rfl, out hf h (.bl _)⟩
    | _ => exact h.elim
  | str i =>
    cases b with
    | str j => cases ra.str; cases rb.str; exact op_le_str pins s σ H _ _ v u Q I rx ry ⟨_, _, rfl, rfl, out hf h (.bl _)⟩
    | _ => exact h.elim
  | _ => exact h.elim
theorem og_gt : OG X (compareOp .Gt) gGt := by
  intro pins s σ H x y v u Q I rx ry h
  obtain ⟨F, C, a, b, hf, ra, rb, h⟩ := h
  cases a with
  | int i =>
    cases b with
    | int j => cases ra.int; cases rb.int; exact op_gt pins s σ H _ _ v u Q I rx ry ⟨i, j, rfl, rfl, out hf h (.bl _)⟩
    | _ => exact h.elim
  | str i =>
    cases b with
    | str j => cases ra.str; cases rb.str; exact op_gt_str pins s σ H _ _ v u Q I rx ry ⟨_, _, rfl, rfl, out hf h (.bl _)⟩
    | _ => exact h.elim
  | _ => exact h.elim
theorem og_ge : OG X (compareOp .GtE) gGe := by
  intro pins s σ H x y v u Q I rx ry h
  obtain ⟨F, C, a, b, hf, ra, rb, h⟩ := h
  cases a with
  | int i =>
    cases b with
    | int j => cases ra.int; cases rb.int; exact op_ge pins s σ H _ _ v u Q I rx ry ⟨i, j, rfl, rfl, out hf h (.bl _)⟩
    | _ => exact h.elim
  | str i =>
    cases b with
    | str j => cases ra.str; cases rb.str; exact op_ge_str pins s σ H _ _ v u Q I rx ry ⟨_, _, rfl, rfl, out hf h (.bl _)⟩
    | _ => exact h.elim
  | _ => exact h.elim
theorem isNon_iff {x : V} {a : D} (r : RpB K F H C x a) : decide (x = .non) = isNon a := by
  rcases r with r | ⟨p, vs, xs, rfl, rfl, _⟩
  · cases r <;> rfl
  · rfl
theorem og_is : OG X (compareOp .Is) gIs := by
  intro pins s σ H x y v u Q I rx ry h
  obtain ⟨F, C, a, b, hf, ra, rb, h⟩ := h
  cases b with
  | non =>
    cases rb.non
    refine op_isN pins s σ H _ _ v u Q I rx ry ⟨rfl, ?_⟩
    rw [isNon_iff ra]
    exact out hf (by cases a <;> exact h) (.bl _)
  | bl j =>
    cases a with
    | bl i =>
      cases ra.bl; cases rb.bl
      refine op_isBl pins s σ H _ _ v u Q I rx ry ⟨i, j, rfl, rfl, ?_⟩
      have e : decide (i = j) = (i == j) := by cases i <;> cases j <;> rfl
      rw [e]
      exact out hf h (.bl _)
    | _ => exact h.elim
  | _ => cases a <;> exact h.elim
theorem og_isNot : OG X (compareOp .IsNot) gIsNot := by
  intro pins s σ H x y v u Q I rx ry h
  obtain ⟨F, C, a, b, hf, ra, rb, h⟩ := h
  cases b with
  | non =>
    cases rb.non
    refine op_notN pins s σ H _ _ v u Q I rx ry ⟨rfl, ?_⟩
    rw [isNon_iff ra]
    exact out hf (by cases a <;> exact h) (.bl _)
  | bl j =>
    cases a with
    | bl i =>
      cases ra.bl; cases rb.bl
      refine op_notBl pins s σ H _ _ v u Q I rx ry ⟨i, j, rfl, rfl, ?_⟩
      have e : decide (i = j) = (i == j) := by cases i <;> cases j <;> rfl
      rw [e]
      exact out hf h (.bl _)
    | _ => exact h.elim
  | _ => cases a <;> exact h.elim
end
end WK
end

section
set_option Elab.async false
set_option linter.all false
set_option maxRecDepth 100000
/-! Expressions, arguments, tests. -/
namespace WK
open PySem L2
def tA (K : PySem.W.Frag) (f : FL) : TA := fun σ H Q => ∃ B F C ρ, EnvOk K B σ H F C ρ ∧ (f ρ).All fun ds => ∀ vs H' F' C', Step H F C H' F' C' → Rps K F' C' vs ds → Q vs H'
abbrev CA (X : Cx) (es : List Expr) (f : FL) : Prop := PA X es (tA X.K f)
def tT (K : PySem.W.Frag) (f : FE) : TT := fun σ H Q => ∃ B F C ρ, EnvOk K B σ H F C ρ ∧ (f ρ).All fun d => ∃ b, d = .bl b ∧ ∀ H' F' C', Step H F C H' F' C' → Q b H'
abbrev CT (X : Cx) (e : Expr) (f : FE) : Prop := PT X e (tT X.K f)
abbrev CW (X : Cx) (e : Expr) (f : FE) : Prop := PW X e (tT X.K f)

theorem all_onB {α : Type} {P : α → Prop} {d : D} {m n : M α} (h : (onB d m n).All P) : ∃ b, d = .bl b ∧ (if b = true then m else n).All P := by
  cases d with
  | bl b => cases b <;> exact ⟨_, rfl, h⟩
  | _ => exact h.elim

section
variable {X : Cx} {a b c e : Expr} {es rest : List Expr} {f g f1 f2 f3 : FE} {fl : FL} {pos : Pos} {i : Nat}

/-! ### names, constants -/
theorem c_var {x : Str} (h : PE X (.Name x pos) (tVar i)) : CF X (.Name x pos) (fVar i) :=
  pe_mono h fun σ H Q ⟨B, F, C, ρ, E, q⟩ => by
    unfold fVar at q
    cases e : ρ[i]? with
    | none => rw [e] at q; exact q.elim
    | some s =>
      rw [e] at q
      have z := E.slot i s e
      cases s with
      | fz d =>
        obtain ⟨v, e1, r⟩ := z
        exact ⟨v, e1, q v H F C E.hf.refl r⟩
      | _ => exact q.elim
theorem c_bor {x : Str} (h : PE X (.Name x pos) (tVar i)) : CB X (.Name x pos) (fBor i) :=
  pe_mono h fun σ H Q ⟨B, F, C, ρ, E, q⟩ => by
    unfold fBor at q
    cases e : ρ[i]? with
    | none => rw [e] at q; exact q.elim
    | some s =>
      rw [e] at q
      have z := E.slot i s e
      cases s with
      | fz d =>
        obtain ⟨v, e1, r⟩ := z
        exact ⟨v, e1, q v H F C E.hf.refl (.inl r)⟩
      | ow xs =>
        obtain ⟨p, vs, e1, hp, r, _, _, c⟩ := z
        exact ⟨.ref p, e1, q _ H F C E.hf.refl (.inr ⟨p, vs, xs, rfl, rfl, hp, c, r⟩)⟩
      | no => exact q.elim
theorem c_of {v : V} {d : D} (h : PE X e (tC v)) (r : ∀ F C, Rp X.K F C v d) : CF X e (fC d) :=
  pe_mono h fun σ H Q ⟨B, F, C, ρ, E, q⟩ => q v H F C E.hf.refl (r F C)
theorem c_int {j : Int} {k} : CF X (.Constant (.int j) k pos) (fC (.int j)) := c_of pe_int fun _ _ => .int j
theorem c_bl {j : Bool} {k} : CF X (.Constant (.bool j) k pos) (fC (.bl j)) := c_of pe_bl fun _ _ => .bl j
theorem c_non {k} : CF X (.Constant .none k pos) (fC .non) := c_of pe_non fun _ _ => .non
theorem c_str (z : List Nat) {s : Str} {k} (h : s = SS z := by decide +kernel) : CF X (.Constant (.str s) k pos) (fC (.str z)) := by
  subst h
  exact c_of pe_str fun _ _ => .str z

/-! ### operators -/
theorem bin_go {R : RK} {t : R2} {gg : D → D → M D} (hr : ∀ {x y H Q}, (∃ F C a b, HF H F C ∧ RpB X.K F H C x a ∧ RpB X.K F H C y b ∧ (gg a b).All fun d => ∀ v H' F' C', Step H F C H' F' C' → R X.K H F' H' C' v d → Q v H') → t x y H Q)
    (hw : ∀ {H F C H1 F1 C1 H2 F2 C2 v d}, HF H F C → Step H F C H1 F1 C1 → R X.K H1 F2 H2 C2 v d → R X.K H F2 H2 C2 v d) {σ : St} {H : Hp} {Q : VK} (h : tG X.K R (fOp gg f1 f2) σ H Q) : tOp t (tG X.K RB f1) (tG X.K RB f2) σ H Q := by
  obtain ⟨B, F, C, ρ, E, q⟩ := h
  refine ⟨B, F, C, ρ, E, (M.all_bind.mp q).mono fun d q x H1 F1 C1 s1 r1 => ?_⟩
  refine ⟨B, F1, C1, ρ, E.step s1, (M.all_bind.mp q).mono fun d2 q y H2 F2 C2 s2 r2 => ?_⟩
  have s12 := s1.trans E.hf s2
  exact hr ⟨F2, C2, d, d2, s2.hf, r1.step s2, r2, q.mono fun d3 q v H3 F3 C3 s3 r3 => q v H3 F3 C3 (s12.trans E.hf s3) (hw E.hf s12 r3)⟩
theorem rn_back {K : PySem.W.Frag} {H F H1 F1 F2 H2 : Hp} {C C1 C2 : Option Addr} {v : V} {d : D} (hf : HF H F C) (s : Step H F C H1 F1 C1) (r : RpN K H1 F2 H2 C2 v d) : RpN K H F2 H2 C2 v d := by
  obtain ⟨p, vs, xs, e1, e2, np, r⟩ := r
  refine ⟨p, vs, xs, e1, e2, ?_, r⟩
  cases q : H p with
  | none => rfl
  | some o => exact absurd np (s.there hf (by rw [q]; simp))
theorem c_op {op : Operator} {gg : D → D → M D} (ho : OG X (binaryOp op) gg) (ha : CB X a f1) (hb : CB X b f2) : CF X (.BinOp a op b pos) (fOp gg f1 f2) :=
  pe_mono (pe_op ho ha hb) fun _ _ _ h => bin_go (R := RF) (fun q => q) (fun _ _ r => r) h
theorem c_opN {op : Operator} {gg : D → D → M D} (ho : ON X (binaryOp op) gg) (ha : CB X a f1) (hb : CB X b f2) : CN X (.BinOp a op b pos) (fOp gg f1 f2) :=
  pe_mono (pe_op ho ha hb) fun _ _ _ h => bin_go (R := RN) (fun q => q) (fun hf s r => rn_back hf s r) h
theorem c_cmp {op : CmpOp} {gg : D → D → M D} (ho : OG X (compareOp op) gg) (ha : CB X a f1) (hb : CB X b f2) (hm : behindInMarks op b = false := by rfl) : CF X (.Compare a [op] [b] pos) (fOp gg f1 f2) :=
  pe_mono (pe_cmpR ho ha hb hm) fun _ _ _ h => bin_go (R := RF) (fun q => q) (fun _ _ r => r) h
theorem rf_bl {K : PySem.W.Frag} {F : Hp} {C : Option Addr} {v : V} {b : Bool} (r : Rp K F C v (.bl b)) : v = .bl b := by cases r; rfl
/-- a reading as a test, from one as a value -/
theorem test_go {σ : St} {H : Hp} {Q : Bool → Hp → Prop} (h : tT X.K f σ H Q) : tG X.K RF f σ H fun v H' => ∃ k, v = .bl k ∧ Q k H' := by
  obtain ⟨B, F, C, ρ, E, q⟩ := h
  refine ⟨B, F, C, ρ, E, q.mono fun d ⟨b, e, q⟩ v H' F' C' s r => ?_⟩
  subst e
  exact ⟨b, rf_bl r, q H' F' C' s⟩
theorem test_goB {σ : St} {H : Hp} {Q : Bool → Hp → Prop} (h : tT X.K f σ H Q) : tG X.K RB f σ H fun v H' => ∃ k, v = .bl k ∧ Q k H' := by
  obtain ⟨B, F, C, ρ, E, q⟩ := h
  refine ⟨B, F, C, ρ, E, q.mono fun d ⟨b, e, q⟩ v H' F' C' s r => ?_⟩
  subst e
  exact ⟨b, r.bl, q H' F' C' s⟩
theorem ct_cmp {op : CmpOp} {gg : D → D → M D} (ho : OG X (compareOp op) gg) (ha : CB X a f1) (hb : CB X b f2) (hm : behindInMarks op b = false := by rfl) : CT X (.Compare a [op] [b] pos) (fOp gg f1 f2) :=
  pt_mono (pt_cmpR ho ha hb hm) fun _ _ _ h => bin_go (R := RF) (fun q => q) (fun _ _ r => r) (test_go h)
theorem ct_val (h : CB X e f) (he : ∀ whole, isTrue e X.env whole = (do let v ← whole; standAt e.pos; holding [v] (truthy v)) := by intro _; rfl) : CT X e f :=
  pt_mono (pt_val h he) fun _ _ _ q => test_goB q
theorem chain_go {op op' : CmpOp} {gg gg' : D → D → M D} {σ : St} {H : Hp} {Q : VK} (h : tG X.K RF (fChain gg gg' f1 f2 f3) σ H Q) : tChain (rG X.K gg) (rG X.K gg') (tG X.K RB f1) (tG X.K RB f2) (tG X.K RB f3) σ H Q := by
  obtain ⟨B, F, C, ρ, E, q⟩ := h
  refine ⟨B, F, C, ρ, E, (M.all_bind.mp q).mono fun d q x H1 F1 C1 s1 r1 => ?_⟩
  refine ⟨B, F1, C1, ρ, E.step s1, (M.all_bind.mp q).mono fun d2 q y H2 F2 C2 s2 r2 => ?_⟩
  have s12 := s1.trans E.hf s2
  refine ⟨F2, C2, d, d2, s2.hf, r1.step s2, r2, (M.all_bind.mp q).mono fun d3 q v H3 F3 C3 s3 r3 => ?_⟩
  obtain ⟨k, e, q'⟩ := all_onB q
  clear q
  subst e
  have q := q'
  clear q'
  cases rf_bl r3
  refine ⟨k, rfl, ?_⟩
  have s13 := s12.trans E.hf s3
  cases k with
  | false =>
    rw [if_neg Bool.false_ne_true] at q ⊢
    exact q _ _ _ _ s13 (.bl false)
  | true =>
    rw [if_pos rfl] at q ⊢
    refine ⟨B, F3, C3, ρ, E.step s13, (M.all_bind.mp q).mono fun d4 q z H4 F4 C4 s4 r4 => ?_⟩
    have s14 := s13.trans E.hf s4
    exact ⟨F4, C4, d2, d4, s4.hf, (r2.step s3).step s4, r4, q.mono fun d5 q v H5 F5 C5 s5 r5 => q v H5 F5 C5 (s14.trans E.hf s5) r5⟩
theorem c_chain {op op' : CmpOp} {gg gg' : D → D → M D} (ho : OG X (compareOp op) gg) (ho' : OG X (compareOp op') gg') (ha : CB X a f1) (hb : CB X b f2) (hc : CB X c f3) (hm : lastMarks [op, op'] [b, c] = false := by with_unfolding_all rfl) :
    CF X (.Compare a [op, op'] [b, c] pos) (fChain gg gg' f1 f2 f3) := pe_mono (pe_chain ho ho' ha hb hc hm) fun _ _ _ h => chain_go (op := op) (op' := op') h
theorem ct_chain {op op' : CmpOp} {gg gg' : D → D → M D} (ho : OG X (compareOp op) gg) (ho' : OG X (compareOp op') gg') (ha : CB X a f1) (hb : CB X b f2) (hc : CB X c f3) (hm : lastMarks [op, op'] [b, c] = false := by with_unfolding_all rfl) :
    CT X (.Compare a [op, op'] [b, c] pos) (fChain gg gg' f1 f2 f3) := pt_mono (pt_chain ho ho' ha hb hc hm) fun _ _ _ h => chain_go (op := op) (op' := op') (test_go h)

/-! ### one operand -/
/-- what a one-place operation promises -/
def rU1 (K : PySem.W.Frag) (R : RK) (g : D → M D) : V → Hp → VK → Prop := fun x H Q => ∃ F C a, HF H F C ∧ RpB K F H C x a ∧ (g a).All fun d => ∀ v H' F' C', Step H F C H' F' C' → R K H F' H' C' v d → Q v H'
theorem un_go {R : RK} {t : V → Hp → VK → Prop} {gg : D → M D} (hr : ∀ {x H Q}, rU1 X.K R gg x H Q → t x H Q)
    (hw : ∀ {H F C H1 F1 C1 H2 F2 C2 v d}, HF H F C → Step H F C H1 F1 C1 → R X.K H1 F2 H2 C2 v d → R X.K H F2 H2 C2 v d) {σ : St} {H : Hp} {Q : VK} (h : tG X.K R (fUn gg f) σ H Q) : tUn t (tG X.K RB f) σ H Q := by
  obtain ⟨B, F, C, ρ, E, q⟩ := h
  refine ⟨B, F, C, ρ, E, (M.all_bind.mp q).mono fun d q x H1 F1 C1 s1 r1 => ?_⟩
  exact hr ⟨F1, C1, d, s1.hf, r1, q.mono fun d3 q v H3 F3 C3 s3 r3 => q v H3 F3 C3 (s1.trans E.hf s3) (hw E.hf s1 r3)⟩
theorem c_neg (ha : CB X a f) : CF X (.UnaryOp .USub a pos) (fUn gNeg f) :=
  pe_mono (pe_un un_neg ha) fun _ _ _ h => un_go (R := RF) (fun ⟨F, C, d, hf, r, q⟩ => by
    cases d with
    | int i => cases r.int; exact ⟨i, rfl, out hf q (.int _)⟩
    | _ => exact q.elim) (fun _ _ r => r) h
theorem c_not (ha : CB X a f) : CF X (.UnaryOp .Not a pos) (fUn gNot f) :=
  pe_mono (pe_not ha) fun _ _ _ h => un_go (R := RF) (t := fun x H1 Q => ∃ c, x = .bl c ∧ Q (.bl (!c)) H1) (fun ⟨F, C, d, hf, r, q⟩ => by
    obtain ⟨k, e, q'⟩ := all_onB q
    clear q
    subst e
    have q := q'
    clear q'
    cases r.bl
    refine ⟨k, rfl, ?_⟩
    cases k
    · exact out hf q (.bl _)
    · exact out hf q (.bl _)) (fun _ _ r => r) h
theorem ct_not (ha : CT X a f) : CT X (.UnaryOp .Not a pos) (fUn gNot f) :=
  pt_mono (pt_not ha) fun σ H Q ⟨B, F, C, ρ, E, q⟩ => ⟨B, F, C, ρ, E, (M.all_bind.mp q).mono fun d q => by
    obtain ⟨k, e, q'⟩ := all_onB q
    clear q
    subst e
    have q := q'
    clear q'
    refine ⟨k, rfl, fun H' F' C' s => ?_⟩
    cases k
    · obtain ⟨b, e, q⟩ := q; cases e; exact q H' F' C' s
    · obtain ⟨b, e, q⟩ := q; cases e; exact q H' F' C' s⟩

/-! ### and, or, if -/
theorem c_one {op} (h : CB X a f) : CB X (.BoolOp op [a] pos) f := pe_one h
theorem and_go {R : RK} {t : TE} (ht : ∀ {σ H Q}, tG X.K R g σ H Q → t σ H Q) (hb : ∀ {H0 F H C b}, R X.K H0 F H C (.bl b) (.bl b)) (hw : ∀ {H F C H1 F1 C1 H2 F2 C2 v d}, HF H F C → Step H F C H1 F1 C1 → R X.K H1 F2 H2 C2 v d → R X.K H F2 H2 C2 v d) {σ : St} {H : Hp} {Q : VK} (h : tG X.K R (fAnd f g) σ H Q) : tAndV (tG X.K RB f) t σ H Q := by
  obtain ⟨B, F, C, ρ, E, q⟩ := h
  refine ⟨B, F, C, ρ, E, (M.all_bind.mp q).mono fun d q x H1 F1 C1 s1 r1 => ?_⟩
  obtain ⟨k, e, q'⟩ := all_onB q
  clear q
  subst e
  have q := q'
  clear q'
  cases r1.bl
  refine ⟨k, rfl, ?_⟩
  cases k with
  | false => rw [if_neg Bool.false_ne_true] at q ⊢; exact q _ _ _ _ s1 hb
  | true => rw [if_pos rfl] at q ⊢; exact ht ⟨B, F1, C1, ρ, E.step s1, q.mono fun d q v H2 F2 C2 s2 r2 => q v H2 F2 C2 (s1.trans E.hf s2) (hw E.hf s1 r2)⟩
theorem or_go {R : RK} {t : TE} (ht : ∀ {σ H Q}, tG X.K R g σ H Q → t σ H Q) (hb : ∀ {H0 F H C b}, R X.K H0 F H C (.bl b) (.bl b)) (hw : ∀ {H F C H1 F1 C1 H2 F2 C2 v d}, HF H F C → Step H F C H1 F1 C1 → R X.K H1 F2 H2 C2 v d → R X.K H F2 H2 C2 v d) {σ : St} {H : Hp} {Q : VK} (h : tG X.K R (fOr f g) σ H Q) : tOrV (tG X.K RB f) t σ H Q := by
  obtain ⟨B, F, C, ρ, E, q⟩ := h
  refine ⟨B, F, C, ρ, E, (M.all_bind.mp q).mono fun d q x H1 F1 C1 s1 r1 => ?_⟩
  obtain ⟨k, e, q'⟩ := all_onB q
  clear q
  subst e
  have q := q'
  clear q'
  cases r1.bl
  refine ⟨k, rfl, ?_⟩
  cases k with
  | true => rw [if_pos rfl] at q ⊢; exact q _ _ _ _ s1 hb
  | false => rw [if_neg Bool.false_ne_true] at q ⊢; exact ht ⟨B, F1, C1, ρ, E.step s1, q.mono fun d q v H2 F2 C2 s2 r2 => q v H2 F2 C2 (s1.trans E.hf s2) (hw E.hf s1 r2)⟩
theorem c_and (ha : CB X a f) (hb : CB X (.BoolOp .And (b :: rest) pos) g) : CB X (.BoolOp .And (a :: b :: rest) pos) (fAnd f g) :=
  pe_mono (pe_and ha hb) fun _ _ _ h => and_go (R := RB) (fun q => q) (.inl (.bl _)) (fun _ _ r => r) h
theorem c_or (ha : CB X a f) (hb : CB X (.BoolOp .Or (b :: rest) pos) g) : CB X (.BoolOp .Or (a :: b :: rest) pos) (fOr f g) :=
  pe_mono (pe_or ha hb) fun _ _ _ h => or_go (R := RB) (fun q => q) (.inl (.bl _)) (fun _ _ r => r) h
/-- .. whose last one is a value that may be kept -/
theorem c_oneF {op} (h : CF X a f) : CF X (.BoolOp op [a] pos) f := pe_one h
theorem c_andF (ha : CB X a f) (hb : CF X (.BoolOp .And (b :: rest) pos) g) : CF X (.BoolOp .And (a :: b :: rest) pos) (fAnd f g) :=
  pe_mono (pe_and ha hb) fun _ _ _ h => and_go (R := RF) (fun q => q) (.bl _) (fun _ _ r => r) h
theorem c_orF (ha : CB X a f) (hb : CF X (.BoolOp .Or (b :: rest) pos) g) : CF X (.BoolOp .Or (a :: b :: rest) pos) (fOr f g) :=
  pe_mono (pe_or ha hb) fun _ _ _ h => or_go (R := RF) (fun q => q) (.bl _) (fun _ _ r => r) h
theorem tt_sub {f' : FE} {σ : St} {H : Hp} {Q : Bool → Hp → Prop} {t : TT} (ht : ∀ {σ H Q}, tT X.K g σ H Q → t σ H Q) (h : tT X.K (fAnd f g) σ H Q) : tAnd (tT X.K f) t σ H Q := by
  obtain ⟨B, F, C, ρ, E, q⟩ := h
  refine ⟨B, F, C, ρ, E, (M.all_bind.mp q).mono fun d q => ?_⟩
  obtain ⟨k, e, q'⟩ := all_onB q
  clear q
  subst e
  have q := q'
  clear q'
  refine ⟨k, rfl, fun H1 F1 C1 s1 => ?_⟩
  cases k with
  | false =>
    rw [if_neg Bool.false_ne_true] at q ⊢
    obtain ⟨b, e, q⟩ := q
    cases e
    exact q _ _ _ s1
  | true =>
    rw [if_pos rfl] at q ⊢
    exact ht ⟨B, F1, C1, ρ, E.step s1, q.mono fun d ⟨b, e, q⟩ => ⟨b, e, fun H2 F2 C2 s2 => q H2 F2 C2 (s1.trans E.hf s2)⟩⟩
theorem to_sub {f' : FE} {σ : St} {H : Hp} {Q : Bool → Hp → Prop} {t : TT} (ht : ∀ {σ H Q}, tT X.K g σ H Q → t σ H Q) (h : tT X.K (fOr f g) σ H Q) : tOr (tT X.K f) t σ H Q := by
  obtain ⟨B, F, C, ρ, E, q⟩ := h
  refine ⟨B, F, C, ρ, E, (M.all_bind.mp q).mono fun d q => ?_⟩
  obtain ⟨k, e, q'⟩ := all_onB q
  clear q
  subst e
  have q := q'
  clear q'
  refine ⟨k, rfl, fun H1 F1 C1 s1 => ?_⟩
  cases k with
  | true =>
    rw [if_pos rfl] at q ⊢
    obtain ⟨b, e, q⟩ := q
    cases e
    exact q _ _ _ s1
  | false =>
    rw [if_neg Bool.false_ne_true] at q ⊢
    exact ht ⟨B, F1, C1, ρ, E.step s1, q.mono fun d ⟨b, e, q⟩ => ⟨b, e, fun H2 F2 C2 s2 => q H2 F2 C2 (s1.trans E.hf s2)⟩⟩
theorem cw_and1 (ha : CT X a f) : CW X (.BoolOp .And [a] pos) f := pw_and1 ha
theorem cw_or1 (ha : CT X a f) : CW X (.BoolOp .Or [a] pos) f := pw_or1 ha
theorem cw_and (ha : CT X a f) (hb : CW X (.BoolOp .And (b :: rest) pos) g) : CW X (.BoolOp .And (a :: b :: rest) pos) (fAnd f g) :=
  pw_mono (pw_and ha hb) fun _ _ _ h => tt_sub (f' := f) (fun q => q) h
theorem cw_or (ha : CT X a f) (hb : CW X (.BoolOp .Or (b :: rest) pos) g) : CW X (.BoolOp .Or (a :: b :: rest) pos) (fOr f g) :=
  pw_mono (pw_or ha hb) fun _ _ _ h => to_sub (f' := f) (fun q => q) h
theorem CW.ct (h : CW X e f) : CT X e f := PW.pt h
theorem if_go {R : RK} (hw : ∀ {H F C H1 F1 C1 H2 F2 C2 v d}, HF H F C → Step H F C H1 F1 C1 → R X.K H1 F2 H2 C2 v d → R X.K H F2 H2 C2 v d) {σ : St} {H : Hp} {Q : VK} (h : tG X.K R (fIf f1 f2 f3) σ H Q) : tIf (tT X.K f1) (tG X.K R f2) (tG X.K R f3) σ H Q := by
  obtain ⟨B, F, C, ρ, E, q⟩ := h
  refine ⟨B, F, C, ρ, E, (M.all_bind.mp q).mono fun d q => ?_⟩
  obtain ⟨k, e, q'⟩ := all_onB q
  clear q
  subst e
  have q := q'
  clear q'
  refine ⟨k, rfl, fun H1 F1 C1 s1 => ?_⟩
  cases k with
  | true => rw [if_pos rfl] at q ⊢; exact ⟨B, F1, C1, ρ, E.step s1, q.mono fun d q v H2 F2 C2 s2 r2 => q v H2 F2 C2 (s1.trans E.hf s2) (hw E.hf s1 r2)⟩
  | false => rw [if_neg Bool.false_ne_true] at q ⊢; exact ⟨B, F1, C1, ρ, E.step s1, q.mono fun d q v H2 F2 C2 s2 r2 => q v H2 F2 C2 (s1.trans E.hf s2) (hw E.hf s1 r2)⟩
theorem c_if (hc : CT X c f1) (ha : CF X a f2) (hb : CF X b f3) : CF X (.IfExp c a b pos) (fIf f1 f2 f3) := pe_mono (pe_ifExp hc ha hb) fun _ _ _ h => if_go (R := RF) (fun _ _ r => r) h
theorem c_ifB (hc : CT X c f1) (ha : CB X a f2) (hb : CB X b f3) : CB X (.IfExp c a b pos) (fIf f1 f2 f3) := pe_mono (pe_ifExp hc ha hb) fun _ _ _ h => if_go (R := RB) (fun _ _ r => r) h
theorem c_ifN (hc : CT X c f1) (ha : CN X a f2) (hb : CN X b f3) : CN X (.IfExp c a b pos) (fIf f1 f2 f3) := pe_mono (pe_ifExp hc ha hb) fun _ _ _ h => if_go (R := RN) (fun hf s r => rn_back hf s r) h

/-! ### arguments, displays -/
theorem ca_nil : CA X [] fNil := pa_mono pa_nil fun σ H Q ⟨B, F, C, ρ, E, q⟩ => q [] H F C E.hf.refl .nil
theorem ca_cons (ha : CF X e f) (hr : CA X es fl) (hs : starEach (e :: es) X.env = (false, eval e X.env) :: starEach es X.env := by rfl) : CA X (e :: es) (fCons f fl) :=
  pa_mono (pa_cons ha hr hs) fun σ H Q ⟨B, F, C, ρ, E, q⟩ => by
    refine ⟨B, F, C, ρ, E, (M.all_bind.mp q).mono fun d q x H1 F1 C1 s1 r1 => ?_⟩
    refine ⟨B, F1, C1, ρ, E.step s1, (M.all_bind.mp q).mono fun ds q xs H2 F2 C2 s2 r2 => ?_⟩
    exact q (x :: xs) H2 F2 C2 (s1.trans E.hf s2) (.cons (r1.step s2) r2)
theorem c_tup {k} (h : CA X es fl) : CF X (.Tuple es k pos) (fArgs gTup fl) :=
  pe_mono (pe_tup h) fun σ H Q ⟨B, F, C, ρ, E, q⟩ => by
    refine ⟨B, F, C, ρ, E, (M.all_bind.mp q).mono fun ds q vs H1 F1 C1 s1 r1 => ?_⟩
    obtain ⟨hz, q⟩ := all_fit q
    refine ⟨by rw [r1.length]; exact Nat.le_of_lt (fits hz), fun p np => q _ _ _ _ (s1.trans E.hf (s1.hf.laidF np)) (.tup (.of upd_same) (r1.mono (upd_sub (s1.hf.notNew np).1) fun _ z => z))⟩
theorem c_lst (h : CA X es fl) : CN X (.List es pos) (fArgs gLst fl) :=
  pe_mono (pe_lst h) fun σ H Q ⟨B, F, C, ρ, E, q⟩ => by
    refine ⟨B, F, C, ρ, E, (M.all_bind.mp q).mono fun ds q vs H1 F1 C1 s1 r1 => ?_⟩
    obtain ⟨hz, q⟩ := all_fit q
    refine ⟨by rw [r1.length]; exact Nat.le_of_lt (fits hz), fun p np => q _ _ _ _ (s1.trans E.hf (s1.hf.laid np)) (rn_back E.hf s1 ⟨p, vs, ds, rfl, rfl, np, upd_same, (s1.hf.notNew np).1, (s1.hf.notNew np).2, r1⟩)⟩

/-! ### built-ins with one, two operands -/
def rC1 (K : PySem.W.Frag) (R : RK) (g : D → M D) : List V → Hp → VK → Prop := fun xs H Q => ∃ x, xs = [x] ∧ rU1 K R g x H Q
def rC2 (K : PySem.W.Frag) (g : D → D → M D) : List V → Hp → VK → Prop := fun xs H Q => ∃ x y, xs = [x, y] ∧ rG K g x y H Q
theorem callr_mono {f : Value} {r r' : List V → Hp → VK → Prop} (h : CallR X f r) (i : ∀ xs H Q, r' xs H Q → r xs H Q) : CallR X f r' := fun pins s σ H xs us Q I rx q => h pins s σ H xs us Q I rx (i xs H Q q)
theorem tcb_go {R : RK} {gg : D → M D} (hw : ∀ {H F C H1 F1 C1 H2 F2 C2 v d}, HF H F C → Step H F C H1 F1 C1 → R X.K H1 F2 H2 C2 v d → R X.K H F2 H2 C2 v d) {σ : St} {H : Hp} {Q : VK} (h : tG X.K R (fUn gg f) σ H Q) : tCB (rC1 X.K R gg) (tCons (tG X.K RB f) tNil) σ H Q := by
  have h1 := un_go (R := R) (t := rU1 X.K R gg) (fun q => q) hw h
  obtain ⟨B, F, C, ρ, E, q⟩ := h1
  exact ⟨B, F, C, ρ, E, q.mono fun d q v H' F' C' s r => ⟨v, rfl, q v H' F' C' s r⟩⟩
theorem tcb2_go {gg : D → D → M D} {σ : St} {H : Hp} {Q : VK} (h : tG X.K RF (fOp gg f1 f2) σ H Q) : tCB (rC2 X.K gg) (tCons (tG X.K RB f1) (tCons (tG X.K RB f2) tNil)) σ H Q := by
  have h1 := bin_go (R := RF) (t := rG X.K gg) (fun q => q) (fun _ _ r => r) h
  obtain ⟨B, F, C, ρ, E, q⟩ := h1
  exact ⟨B, F, C, ρ, E, q.mono fun d q v H' F' C' s r => by
    obtain ⟨B2, F2, C2, ρ2, E2, q2⟩ := q v H' F' C' s r
    exact ⟨B2, F2, C2, ρ2, E2, q2.mono fun d q v2 H' F' C' s r => ⟨v, v2, rfl, q v2 H' F' C' s r⟩⟩⟩
variable {id T : String} {x : Str} {p : Pos} {gg : D → M D} {g2 : D → D → M D}
theorem c_b1 (hc : CallR X (.builtin id) (rC1 X.K RF gg)) (hg : Gl X x) (hm : X.mg x = none) (hv : bootBuiltins x = some (.builtin id)) (ha : CB X e f) (hn : x ≠ "__name__" := by decide) (hdb : (x == ("__debug__" : Str)) = false := by decide)
    (he : starEach [e] X.env = (false, eval e X.env) :: starEach [] X.env := by rfl) (hpl : (backTo pos (starEach [] X.env)).any (·.1) = false := by rfl) : CF X (.Call (.Name x p) [e] [] pos) (fUn gg f) :=
  pe_mono (pe_callB hc hg hm hv (pa_cons ha pa_nil he) hn hdb he hpl) fun _ _ _ h => tcb_go (R := RF) (fun _ _ r => r) h
theorem c_b1N (hc : CallR X (.builtin id) (rC1 X.K RN gg)) (hg : Gl X x) (hm : X.mg x = none) (hv : bootBuiltins x = some (.builtin id)) (ha : CB X e f) (hn : x ≠ "__name__" := by decide) (hdb : (x == ("__debug__" : Str)) = false := by decide)
    (he : starEach [e] X.env = (false, eval e X.env) :: starEach [] X.env := by rfl) (hpl : (backTo pos (starEach [] X.env)).any (·.1) = false := by rfl) : CN X (.Call (.Name x p) [e] [] pos) (fUn gg f) :=
  pe_mono (pe_callB hc hg hm hv (pa_cons ha pa_nil he) hn hdb he hpl) fun _ _ _ h => tcb_go (R := RN) (fun hf s r => rn_back hf s r) h
theorem c_t1 (hc : CallR X (.type T) (rC1 X.K RF gg)) (hg : Gl X x) (hm : X.mg x = none) (hv : bootBuiltins x = some (.type T)) (ha : CB X e f) (hn : x ≠ "__name__" := by decide) (hdb : (x == ("__debug__" : Str)) = false := by decide)
    (he : starEach [e] X.env = (false, eval e X.env) :: starEach [] X.env := by rfl) (hpl : (backTo pos (starEach [] X.env)).any (·.1) = false := by rfl) : CF X (.Call (.Name x p) [e] [] pos) (fUn gg f) :=
  pe_mono (pe_callTy hc hg hm hv (pa_cons ha pa_nil he) hn hdb he hpl) fun _ _ _ h => tcb_go (R := RF) (fun _ _ r => r) h
theorem c_t1N (hc : CallR X (.type T) (rC1 X.K RN gg)) (hg : Gl X x) (hm : X.mg x = none) (hv : bootBuiltins x = some (.type T)) (ha : CB X e f) (hn : x ≠ "__name__" := by decide) (hdb : (x == ("__debug__" : Str)) = false := by decide)
    (he : starEach [e] X.env = (false, eval e X.env) :: starEach [] X.env := by rfl) (hpl : (backTo pos (starEach [] X.env)).any (·.1) = false := by rfl) : CN X (.Call (.Name x p) [e] [] pos) (fUn gg f) :=
  pe_mono (pe_callTy hc hg hm hv (pa_cons ha pa_nil he) hn hdb he hpl) fun _ _ _ h => tcb_go (R := RN) (fun hf s r => rn_back hf s r) h
theorem c_b2 (hc : CallR X (.builtin id) (rC2 X.K g2)) (hg : Gl X x) (hm : X.mg x = none) (hv : bootBuiltins x = some (.builtin id)) (ha : CB X a f1) (hb : CB X b f2) (hn : x ≠ "__name__" := by decide) (hdb : (x == ("__debug__" : Str)) = false := by decide)
    (he : starEach [a, b] X.env = (false, eval a X.env) :: starEach [b] X.env := by rfl) (he2 : starEach [b] X.env = (false, eval b X.env) :: starEach [] X.env := by rfl) (hpl : (backTo pos (starEach [b] X.env)).any (·.1) = false := by rfl) : CF X (.Call (.Name x p) [a, b] [] pos) (fOp g2 f1 f2) :=
  pe_mono (pe_callB hc hg hm hv (pa_cons ha (pa_cons hb pa_nil he2) he) hn hdb he hpl) fun _ _ _ h => tcb2_go h

/-! ### items, slices -/
theorem ix_mono {r r' : R2} (h : IxR X r) (i : ∀ x y H Q, r' x y H Q → r x y H Q) : IxR X r' := by
  intro value slice pins s σ H x y v u Q I rx ry q hs
  exact h value slice pins s σ H x y v u Q I rx ry (i _ _ _ _ q) hs
theorem at_ok {α : Type} {xs : List α} {i : Int} {x : α} (h : at? xs i = some x) : atI xs i = some x := by
  unfold at? at h
  unfold atI ixN
  by_cases h0 : 0 ≤ i
  · rw [if_pos h0] at h ⊢
    have hl := (List.getElem?_eq_some_iff.mp h).1
    rw [if_pos (by omega)]
    exact h
  · rw [if_neg h0] at h ⊢
    by_cases h1 : -(xs.length : Int) ≤ i
    · rw [if_pos h1] at h ⊢
      exact h
    · rw [if_neg h1] at h; cases h
theorem at_rps {K : PySem.W.Frag} {F : Hp} {C : Option Addr} {vs : List V} {ds : List D} {i : Int} {d : D} (r : Rps K F C vs ds) (h : at? ds i = some d) : ∃ v, atI vs i = some v ∧ Rp K F C v d := by
  have hl := r.length
  unfold at? at h
  unfold atI ixN
  rw [hl]
  by_cases h0 : 0 ≤ i
  · rw [if_pos h0] at h ⊢
    have hl := (List.getElem?_eq_some_iff.mp h).1
    rw [if_pos (by omega)]
    exact r.get h
  · rw [if_neg h0] at h ⊢
    by_cases h1 : -(ds.length : Int) ≤ i
    · rw [if_pos h1] at h ⊢
      exact r.get h
    · rw [if_neg h1] at h; cases h
theorem all_ofO {P : D → Prop} {o : Option D} (h : (ofO o).All P) : ∃ d, o = some d ∧ P d := by
  cases o with
  | none => exact h.elim
  | some d => exact ⟨d, rfl, h⟩
theorem ix_all : IxR X (rG X.K gIx) := ix_mono ix_seq fun x y H Q ⟨F, C, a, b, hf, ra, rb, h⟩ => by
  cases a with
  | lst xs =>
    cases b with
    | int i =>
      cases rb.int
      obtain ⟨p, vs, rfl, hp, r⟩ := ra.list hf
      obtain ⟨d, e, h⟩ := all_ofO h
      obtain ⟨v, e2, rv⟩ := at_rps r e
      exact .inl ⟨p, vs, i, v, rfl, rfl, .of hp, e2, h v H F C hf.refl rv⟩
    | _ => exact h.elim
  | tup xs =>
    cases b with
    | int i =>
      cases rb.int
      obtain ⟨p, vs, rfl, _, hp, r⟩ := ra.tup hf
      obtain ⟨d, e, h⟩ := all_ofO h
      obtain ⟨v, e2, rv⟩ := at_rps r e
      exact .inr (.inl ⟨p, vs, i, v, rfl, rfl, hp, e2, h v H F C hf.refl rv⟩)
    | _ => exact h.elim
  | str s =>
    cases b with
    | int i =>
      cases ra.str; cases rb.int
      obtain ⟨hz, h⟩ := all_fit h
      obtain ⟨d, e, h⟩ := all_ofO h
      cases q : at? s i with
      | none => rw [q] at e; cases e
      | some c =>
        rw [q] at e
        cases e
        exact .inr (.inr ⟨SS s, i, c, rfl, rfl, by rw [ss_length]; exact Nat.le_of_lt (fits hz), at_ok q, h _ H F C hf.refl (.str [c])⟩)
    | _ => exact h.elim
  | _ => exact h.elim
theorem c_ix (ha : CB X a f1) (hb : CB X b f2) (hs : PlainIx b := by exact fun _ _ => rfl) : CF X (.Subscript a b pos) (fOp gIx f1 f2) :=
  pe_mono (pe_ix ix_all ha hb hs) fun _ _ _ h => bin_go (R := RF) (fun q => q) (fun _ _ r => r) h

/-- a part of a slice -/
def tO (K : PySem.W.Frag) (f : FO) : TO := fun σ H Q => ∃ B F C ρ, EnvOk K B σ H F C ρ ∧ (f ρ).All fun o => ∀ H' F' C', Step H F C H' F' C' → Q o H'
abbrev CO (X : Cx) (e : Option Expr) (f : FO) : Prop := PO X e (tO X.K f)
theorem po_mono {e : Option Expr} {t t' : TO} (h : PO X e t) (i : ∀ σ H Q, t' σ H Q → t σ H Q) : PO X e t' := ⟨fun pins s σ H Q I q => h.run pins s σ H Q I (i σ H Q q)⟩
theorem co_none : CO X none fNoPart := po_mono po_none fun σ H Q ⟨B, F, C, ρ, E, q⟩ => q H F C E.hf.refl
theorem co_some (h : CB X e f) : CO X (some e) (fPart f) := po_mono (po_some h) fun σ H Q ⟨B, F, C, ρ, E, q⟩ => by
  refine ⟨B, F, C, ρ, E, (M.all_bind.mp q).mono fun d q v H1 F1 C1 s1 r1 => ?_⟩
  cases d with
  | int i => cases r1.int; exact ⟨i, rfl, q H1 F1 C1 s1⟩
  | _ => exact q.elim
theorem slr_mono {r r' : V → Option Int → Option Int → Hp → VK → Prop} (h : L2.SlR X r) (i : ∀ x a b H Q, r' x a b H Q → r x a b H Q) : L2.SlR X r' := by
  intro pins s σ H x v vl vu lo hi sl Q I rx hs pl pu q
  exact h pins s σ H x v vl vu lo hi sl Q I rx hs pl pu (i _ _ _ _ _ q)
theorem cut_rps {K : PySem.W.Frag} {F : Hp} {C : Option Addr} {vs : List V} {ds : List D} {lo hi : Option Int} (r : Rps K F C vs ds) : Rps K F C (cutV vs lo hi) (cut ds lo hi) := by
  unfold cutV cut
  rw [r.length]
  exact (r.drop _).take _
def rSl (K : PySem.W.Frag) (R : RK) : V → Option Int → Option Int → Hp → VK → Prop := fun x lo hi H Q => ∃ F C a, HF H F C ∧ RpB K F H C x a ∧ (gSl a lo hi).All fun d => ∀ v H' F' C', Step H F C H' F' C' → R K H F' H' C' v d → Q v H'
theorem cut_all {α : Type} {xs : List α} {lo hi : Option Int} (h : HT.sIx xs.length 0 lo = 0 ∧ HT.sIx xs.length xs.length hi = xs.length) : cut xs lo hi = xs := by
  have e1 : cutIx xs.length 0 lo = 0 := h.1
  have e2 : cutIx xs.length xs.length hi = xs.length := h.2
  unfold cut
  rw [e1, e2]
  simp
theorem sl_all : L2.SlR X (rSl X.K RF) := slr_mono (L2.SlR.or sl_list (L2.SlR.or sl_tupA sl_str)) fun x lo hi H Q ⟨F, C, a, hf, ra, h⟩ => by
  cases a with
  | lst xs =>
    obtain ⟨p, vs, rfl, hp, r⟩ := ra.list hf
    exact .inl ⟨p, vs, rfl, .of hp, outL hf h (cut_rps r)⟩
  | tup xs =>
    obtain ⟨p, vs, rfl, hpF, hp, r⟩ := ra.tup hf
    refine .inr (.inl ⟨p, vs, rfl, hp, fun hw => ?_, fun _ => outT hf h (cut_rps r)⟩)
    rw [r.length] at hw
    have h' : (M.ret (D.tup (cut xs lo hi))).All _ := h
    rw [cut_all hw] at h'
    exact out hf h' (.tup hpF r)
  | str s =>
    cases ra.str
    obtain ⟨hz, h⟩ := all_fit h
    refine .inr (.inr ⟨SS s, rfl, by rw [ss_length]; exact Nat.le_of_lt (fits hz), ?_⟩)
    have e : cutS (SS s) lo hi = SS (cut s lo hi) := by
      unfold cutS cut
      rw [ss_length]
      rfl
    rw [e]
    exact out hf h (.str _)
  | _ => exact h.elim
/-- a list's part, as a new list -/
def gSlL (x : D) (lo hi : Option Int) : M D := match x with
  | .lst xs => .ret (.lst (cut xs lo hi))
  | _ => .bad
theorem c_sl {lo hi : Option Expr} {fa fb : FO} {p2 : Pos} (he : CB X e f) (hl : CO X lo fa) (hh : CO X hi fb) : CF X (.Subscript e (.Slice lo hi none p2) pos) (fSl f fa fb) :=
  pe_mono (pe_slice sl_all he hl hh) fun σ H Q ⟨B, F, C, ρ, E, q⟩ => by
    refine ⟨B, F, C, ρ, E, (M.all_bind.mp q).mono fun d q x H1 F1 C1 s1 r1 => ?_⟩
    refine ⟨B, F1, C1, ρ, E.step s1, (M.all_bind.mp q).mono fun o q H2 F2 C2 s2 => ?_⟩
    have s12 := s1.trans E.hf s2
    refine ⟨B, F2, C2, ρ, E.step s12, (M.all_bind.mp q).mono fun o2 q H3 F3 C3 s3 => ?_⟩
    have s13 := s12.trans E.hf s3
    exact ⟨F3, C3, d, s3.hf, (r1.step s2).step s3, q.mono fun d q v H4 F4 C4 s4 r4 => q v H4 F4 C4 (s13.trans E.hf s4) r4⟩
end
end WK
end

section
set_option Elab.async false
set_option linter.all false
set_option maxRecDepth 100000
/-! What is walked, comprehensions, targets, statements, defs. -/
namespace WK
open PySem L2
/-! ### what is walked -/
/-- J gives the things xs one after another, as long as P stands -/
def Wk (K : PySem.W.Frag) (P : Hp → Hp → Option Addr → Prop) (J : It) (xs : List D) : Prop := ∀ (i : Nat) (H F : Hp) (C : Option Addr), P H F C →
  (∀ d, xs[i]? = some d → J.go i H ∧ ∀ x H', J.yld i H x H' → ∃ F', Step H F C H' F' C ∧ Rp K F' C x d) ∧ (i = xs.length → J.stop i H)
/-- what stands through a loop; through a comprehension -/
def PL (H0 F0 : Hp) (C0 : Option Addr) : Hp → Hp → Option Addr → Prop := fun H F C => HF H F C ∧ Same F0 F ∧ ∀ c, C0 = some c → C = some c
def PC (H0 F0 : Hp) (C0 : Option Addr) : Hp → Hp → Option Addr → Prop := fun H F C => HF H0 F0 C0 ∧ Step H0 F0 C0 H F C
theorem PC.pl {H0 F0 H F : Hp} {C0 C : Option Addr} (p : PC H0 F0 C0 H F C) : PL H0 F0 C0 H F C := ⟨p.2.hf, p.2.frz, p.2.cup⟩
theorem Wk.weak {K : PySem.W.Frag} {P P' : Hp → Hp → Option Addr → Prop} {J : It} {xs : List D} (w : Wk K P J xs) (h : ∀ H F C, P' H F C → P H F C) : Wk K P' J xs := fun i H F C p => w i H F C (h _ _ _ p)
def tI (K : PySem.W.Frag) (PP : Hp → Hp → Option Addr → Hp → Hp → Option Addr → Prop) (f : FL) : TI := fun σ H R => ∃ B F C ρ, EnvOk K B σ H F C ρ ∧ (f ρ).All fun xs => ∀ J H' F' C', Step H F C H' F' C' → xs.length ≤ sizeLine → Wk K (PP H' F' C') J xs → R J H'
abbrev CI (X : Cx) (tg e : Expr) (f : FL) : Prop := PI X tg e (tI X.K PL f)
abbrev CJ (X : Cx) (tg e : Expr) (f : FL) : Prop := PI X tg e (tI X.K PC f)
theorem CI.cj {X : Cx} {tg e : Expr} {f : FL} (h : CI X tg e f) : CJ X tg e f := pi_mono h fun σ H R ⟨B, F, C, ρ, E, q⟩ =>
  ⟨B, F, C, ρ, E, q.mono fun xs q J H' F' C' s hz w => q J H' F' C' s hz (w.weak fun _ _ _ p => p.pl)⟩

/-- a list, a tuple, a text -/
def iAny (K : PySem.W.Frag) (te : TE) : TI := fun σ H R => te σ H fun x H1 => (∃ a xs, x = .ref a ∧ SqL K H1 a xs ∧ (xs.length ≤ sizeLine → R (Itl K a) H1)) ∨ (∃ a xs, x = .ref a ∧ SqT K H1 a xs ∧ (xs.length ≤ sizeLine → R (Itt K a) H1)) ∨ ∃ z, x = .str z ∧ R (Its z) H1
theorem pi_any {X : Cx} {tg e : Expr} {te : TE} (he : PE X e te) : PI X tg e (iAny X.K te) := by
  refine ⟨fun pins s σ H R I h => ?_⟩
  refine thn (he.run pins s σ H _ I h) fun v s1 ⟨x, H1, I1, r1, q1⟩ => ?_
  rcases q1 with ⟨a, xs, rfl, hq, q⟩ | ⟨a, xs, rfl, hq, q⟩ | ⟨z, rfl, q⟩
  · cases r1
    obtain ⟨its, rv, p, hz⟩ := I1.list hq
    refine wpAny_pyIter_list p.isList ?_
    refine ⟨s1.heap.objs.size, [s1.heap.objs.size], _, _, H1, rfl, I1.kept (t' := s1.toks) fun b o e => Heap.get?_push_of_some _ e, turn_list a _, ⟨_, Heap.get?_push_size _ rfl, rfl, rfl⟩, fun b hb => ?_, q hz⟩
    have e : b = s1.heap.objs.size := by simpa using hb
    subst e
    exact I1.fpOk (Nat.le_refl _) (I1.hok.fresh (Nat.le_refl _))
  · cases r1
    obtain ⟨its, rv, p, hz⟩ := I1.tuple hq
    refine wpAny_pyIter_tuple (show s1.heap.IsTuple a its.toArray from p) ?_
    refine ⟨s1.heap.objs.size, [s1.heap.objs.size], _, _, H1, rfl, I1.kept (t' := s1.toks) fun b o e => Heap.get?_push_of_some _ e, turn_tuple a _, ⟨_, Heap.get?_push_size _ rfl, rfl, rfl⟩, fun b hb => ?_, q hz⟩
    have e : b = s1.heap.objs.size := by simpa using hb
    subst e
    exact I1.fpOk (Nat.le_refl _) (I1.hok.fresh (Nat.le_refl _))
  · obtain ⟨t, rfl⟩ := r1
    cases ha : z.cps.all (· < 128)
    · exact wpAny_pyIter_wide ha (pi_one (tk := s1.toks) I1 _ (turn_str _ z t "str_iterator" (.inr rfl)) ⟨_, Heap.get?_push_size _ rfl, rfl, rfl⟩ q)
    · exact wpAny_pyIter_ascii ha (pi_one (tk := s1.toks) I1 _ (turn_str _ z t "str_ascii_iterator" (.inl rfl)) ⟨_, Heap.get?_push_size _ rfl, rfl, rfl⟩ q)
section
variable {K : PySem.W.Frag} {P : Hp → Hp → Option Addr → Prop}
theorem wk_lst {a : Addr} {vs : List V} {ds : List D} (h : ∀ H F C, P H F C → HF H F C ∧ SqL K H a vs ∧ Rps K F C vs ds) : Wk K P (Itl K a) ds := fun i H F C p => by
  obtain ⟨hf, hq, r⟩ := h H F C p
  refine ⟨fun d e => ?_, fun e => ⟨vs, hq, by rw [r.length, e]; exact Nat.le_refl _⟩⟩
  obtain ⟨v, e1, r1⟩ := r.get e
  refine ⟨⟨vs, v, hq, e1⟩, fun x H' y => ?_⟩
  obtain ⟨rfl, y⟩ := y
  have := y vs hq
  rw [e1] at this
  cases this
  exact ⟨F, hf.refl, r1⟩
theorem wk_tup {a : Addr} {vs : List V} {ds : List D} (h : ∀ H F C, P H F C → HF H F C ∧ SqT K H a vs ∧ Rps K F C vs ds) : Wk K P (Itt K a) ds := fun i H F C p => by
  obtain ⟨hf, hq, r⟩ := h H F C p
  refine ⟨fun d e => ?_, fun e => ⟨vs, hq, by rw [r.length, e]; exact Nat.le_refl _⟩⟩
  obtain ⟨v, e1, r1⟩ := r.get e
  refine ⟨⟨vs, v, hq, e1⟩, fun x H' y => ?_⟩
  obtain ⟨rfl, y⟩ := y
  have := y vs hq
  rw [e1] at this
  cases this
  exact ⟨F, hf.refl, r1⟩
theorem wk_str {z : List Nat} (h : ∀ H F C, P H F C → HF H F C) : Wk K P (Its (SS z)) (z.map fun c => .str [c]) := fun i H F C p => by
  have hf := h H F C p
  refine ⟨fun d e => ?_, fun e => ?_⟩
  · rw [List.getElem?_map] at e
    cases q : z[i]? with
    | none => rw [q] at e; cases e
    | some c =>
      rw [q] at e
      cases e
      have hi : i < z.length := (List.getElem?_eq_some_iff.mp q).1
      refine ⟨?_, fun x H' y => ?_⟩
      · show i < z.toArray.size
        rw [List.size_toArray]; exact hi
      · obtain ⟨rfl, c', e1, rfl⟩ := y
        have e1' : z.toArray[i]? = some c' := e1
        rw [List.getElem?_toArray, q] at e1'
        cases e1'
        exact ⟨F, hf.refl, .str [c]⟩
  · show z.toArray.size ≤ i
    rw [List.size_toArray, e, List.length_map]
    exact Nat.le_refl _
theorem wk_rng {lo : Int} {n : Nat} (h : ∀ H F C, P H F C → HF H F C) : Wk K P (Itr lo n) (rngL lo n) := fun i H F C p => by
  have hf := h H F C p
  have hl : (rngL lo n).length = n := by unfold rngL; simp
  refine ⟨fun d e => ?_, fun e => by rw [e, hl]; exact Nat.le_refl _⟩
  have hi : i < n := by
    have := (List.getElem?_eq_some_iff.mp e).1
    omega
  unfold rngL at e
  rw [List.getElem?_map, List.getElem?_range hi] at e
  cases e
  refine ⟨hi, fun x H' y => ?_⟩
  obtain ⟨rfl, rfl⟩ := y
  exact ⟨F, hf.refl, .int _⟩
end
section
variable {X : Cx} {tg e a b : Expr} {f f1 f2 : FE} {pos p : Pos}
theorem iseq_go {σ : St} {H : Hp} {R : It → Hp → Prop} (h : tI X.K PL (iSeq f) σ H R) : iAny X.K (tG X.K RF f) σ H R := by
  obtain ⟨B, F, C, ρ, E, q⟩ := h
  refine ⟨B, F, C, ρ, E, (M.all_bind.mp q).mono fun d q v H1 F1 C1 s1 r1 => ?_⟩
  cases r1 with
  | lst hs rs =>
    refine .inl ⟨_, _, rfl, .of (s1.hf.sub _ _ hs), fun hz => q (Itl X.K _) H1 F1 C1 s1 (by rw [← rs.length]; exact hz) (wk_lst fun H2 F2 C2 p => ⟨p.1, .of (p.1.sub _ _ (p.2.1 _ _ hs)), rs.mono p.2.1 p.2.2⟩)⟩
  | tup hs rs =>
    refine .inr (.inl ⟨_, _, rfl, sameT s1.hf.sub hs, fun hz => q (Itt X.K _) H1 F1 C1 s1 (by rw [← rs.length]; exact hz) (wk_tup fun H2 F2 C2 p => ⟨p.1, sameT p.1.sub (sameT p.2.1 hs), rs.mono p.2.1 p.2.2⟩)⟩)
  | str z =>
    obtain ⟨hz, q⟩ := all_if q
    refine .inr (.inr ⟨_, rfl, q _ H1 F1 C1 s1 (by rw [List.length_map]; exact Nat.le_of_lt (fits hz)) (wk_str fun _ _ _ p => p.1)⟩)
  | _ => exact q.elim
theorem iseq_goB {σ : St} {H : Hp} {R : It → Hp → Prop} (h : tI X.K PC (iSeq f) σ H R) : iAny X.K (tG X.K RB f) σ H R := by
  obtain ⟨B, F, C, ρ, E, q⟩ := h
  refine ⟨B, F, C, ρ, E, (M.all_bind.mp q).mono fun d q v H1 F1 C1 s1 r1 => ?_⟩
  rcases r1 with r1 | ⟨p, vs, xs, rfl, rfl, hp, hc, rs⟩
  · cases r1 with
    | lst hs rs =>
      refine .inl ⟨_, _, rfl, .of (s1.hf.sub _ _ hs), fun hz => q (Itl X.K _) H1 F1 C1 s1 (by rw [← rs.length]; exact hz) (wk_lst fun H2 F2 C2 p => ⟨p.2.hf, .of (p.2.hf.sub _ _ (p.2.frz _ _ hs)), rs.mono p.2.frz p.2.cup⟩)⟩
    | tup hs rs =>
      refine .inr (.inl ⟨_, _, rfl, sameT s1.hf.sub hs, fun hz => q (Itt X.K _) H1 F1 C1 s1 (by rw [← rs.length]; exact hz) (wk_tup fun H2 F2 C2 p => ⟨p.2.hf, sameT p.2.hf.sub (sameT p.2.frz hs), rs.mono p.2.frz p.2.cup⟩)⟩)
    | str z =>
      obtain ⟨hz, q⟩ := all_if q
      refine .inr (.inr ⟨_, rfl, q _ H1 F1 C1 s1 (by rw [List.length_map]; exact Nat.le_of_lt (fits hz)) (wk_str fun _ _ _ p => p.2.hf)⟩)
    | _ => exact q.elim
  · exact .inl ⟨p, vs, rfl, .of hp, fun hz => q (Itl X.K p) H1 F1 C1 s1 (by rw [← rs.length]; exact hz) (wk_lst fun H2 F2 C2 z => ⟨z.2.hf, .of (z.2.same _ _ hc hp), rs.mono z.2.frz z.2.cup⟩)⟩
theorem ci_seq (h : CF X e f) : CI X tg e (iSeq f) := pi_mono (pi_any h) fun _ _ _ q => iseq_go q
theorem cj_seq (h : CB X e f) : CJ X tg e (iSeq f) := pi_mono (pi_any h) fun _ _ _ q => iseq_goB q
theorem ci_rng1 (hg : Gl X "range") (hm : X.mg "range" = none) (ha : CB X a f) (hs : starEach [a] X.env = [(false, eval a X.env)] := by rfl) : CI X tg (.Call (.Name "range" p) [a] [] pos) (iRange1 f) :=
  pi_mono (pi_range1 hg hm (pa_cons ha pa_nil hs) hs) fun σ H R ⟨B, F, C, ρ, E, q⟩ => by
    refine ⟨B, F, C, ρ, E, (M.all_bind.mp q).mono fun d q v H1 F1 C1 s1 r1 => ?_⟩
    cases d with
    | int j =>
      cases r1.int
      obtain ⟨h1, q⟩ := all_if q
      refine ⟨j, rfl, by omega, by omega, q _ H1 F1 C1 s1 ?_ (wk_rng fun _ _ _ p => p.1)⟩
      unfold rngL
      rw [List.length_map, List.length_range]
      have e : sizeMax = 16000000 := rfl
      exact Nat.le_of_lt (fits (by omega))
    | _ => exact q.elim
theorem ci_rng2 (hg : Gl X "range") (hm : X.mg "range" = none) (ha : CB X a f1) (hb : CB X b f2) (hs : starEach [a, b] X.env = [(false, eval a X.env), (false, eval b X.env)] := by rfl) (hs2 : starEach [b] X.env = [(false, eval b X.env)] := by rfl) : CI X tg (.Call (.Name "range" p) [a, b] [] pos) (iRange2 f1 f2) :=
  pi_mono (pi_range2 hg hm (pa_cons ha (pa_cons hb pa_nil hs2) (by rw [hs, hs2])) hs hs2) fun σ H R ⟨B, F, C, ρ, E, q⟩ => by
    refine ⟨B, F, C, ρ, E, (M.all_bind.mp q).mono fun d q v H1 F1 C1 s1 r1 => ?_⟩
    refine ⟨B, F1, C1, ρ, E.step s1, (M.all_bind.mp q).mono fun d2 q v2 H2 F2 C2 s2 r2 => ?_⟩
    cases d with
    | int i =>
      cases d2 with
      | int j =>
        cases r1.int; cases r2.int
        obtain ⟨⟨h1, h2⟩, q⟩ := all_if q
        refine ⟨i, j, rfl, ⟨by omega, by omega, by omega, by omega⟩, q _ H2 F2 C2 (s1.trans E.hf s2) ?_ (wk_rng fun _ _ _ p => p.1)⟩
        unfold rngL
        rw [List.length_map, List.length_range]
        have e : sizeMax = 16000000 := rfl
        exact Nat.le_of_lt (fits (by omega))
      | _ => exact q.elim
    | _ => cases d2 <;> exact q.elim
end

/-! ### targets -/
theorem wipe_set (i : Nat) (x : Option V) (σ : St) : ∀ vs : List Nat, i ∈ vs → L2.wipe (σ.set i x) vs = L2.wipe σ vs := by
  have gen : ∀ vs : List Nat, (i ∈ vs → L2.wipe (σ.set i x) vs = L2.wipe σ vs) ∧ (i ∉ vs → L2.wipe (σ.set i x) vs = (L2.wipe σ vs).set i x) := by
    intro vs
    induction vs with
    | nil => exact ⟨fun h => absurd h (by simp), fun _ => rfl⟩
    | cons v vs ih =>
      refine ⟨fun h => ?_, fun h => ?_⟩
      · show (L2.wipe (σ.set i x) vs).set v none = (L2.wipe σ vs).set v none
        by_cases hi : i ∈ vs
        · rw [ih.1 hi]
        · rw [ih.2 hi]
          have e : i = v := by
            rcases List.mem_cons.mp h with h | h
            · exact h
            · exact absurd h hi
          subst e
          rw [List.set_set]
      · show (L2.wipe (σ.set i x) vs).set v none = ((L2.wipe σ vs).set v none).set i x
        have h1 : i ∉ vs := fun z => h (List.mem_cons_of_mem _ z)
        have h2 : v ≠ i := fun z => h (z ▸ List.mem_cons_self)
        rw [ih.2 h1, List.set_comm _ _ h2]
  intro vs h
  exact (gen vs).1 h
/-- is: the names that are stored -/
def tTg (K : PySem.W.Frag) (is : List Nat) (g : FG) : TG := fun v σ H Q => ∃ B F C ρ d, EnvOk K B σ H F C ρ ∧ Rp K F C v d ∧ ∃ ρ', g d ρ = some ρ' ∧ ∀ σ', EnvOk K B σ' H F C ρ' → (∀ vs : List Nat, (∀ i, i ∈ is → i ∈ vs) → L2.wipe σ' vs = L2.wipe σ vs) → Q σ' H
abbrev CGt (X : Cx) (is : List Nat) (e : Expr) (g : FG) : Prop := PG X e (tTg X.K is g)
def tTgs (K : PySem.W.Frag) (is : List Nat) (gs : List FG) : TGs := fun vs σ H Q => ∃ B F C ρ ds, EnvOk K B σ H F C ρ ∧ Rps K F C vs ds ∧ ∃ ρ', gtSeq gs ds ρ = some ρ' ∧ ∀ σ', EnvOk K B σ' H F C ρ' → (∀ vs : List Nat, (∀ i, i ∈ is → i ∈ vs) → L2.wipe σ' vs = L2.wipe σ vs) → Q σ' H
abbrev CGs (X : Cx) (is : List Nat) (es : List Expr) (gs : List FG) : Prop := PGs X es (tTgs X.K is gs)
theorem pgs_mono {X : Cx} {e : List Expr} {t t' : TGs} (h : PGs X e t) (i : ∀ v σ H Q, t' v σ H Q → t v σ H Q) : PGs X e t' := ⟨fun pins s σ H v u Q I r q => h.run pins s σ H v u Q I r (i v σ H Q q)⟩
section
variable {X : Cx} {e : Expr} {es : List Expr} {pos : Pos} {i : Nat} {x : Str} {g : FG} {gs : List FG} {is js : List Nat}
theorem cg_name (h : PG X (.Name x pos) (gName i)) : CGt X [i] (.Name x pos) (gtName i) := pg_mono h fun v σ H Q ⟨B, F, C, ρ, d, E, r, ρ', e, q⟩ => by
  unfold gtName at e
  split at e
  · cases e; exact q _ (E.set r) fun vs h => wipe_set _ _ _ vs (h i List.mem_cons_self)
  · cases e
theorem cgs_nil : CGs X [] [] [] := pgs_mono pgs_nil fun vs σ H Q ⟨B, F, C, ρ, ds, E, r, ρ', e, q⟩ => by
  cases ds with
  | nil => cases e; exact ⟨r.nilD, q _ E fun _ _ => rfl⟩
  | cons _ _ => cases e
theorem cgs_cons (h1 : CGt X is e g) (h2 : CGs X js es gs) (hs : (assignEach (e :: es) X.env).map (·.2) = assign e X.env :: (assignEach es X.env).map (·.2) := by rfl) : CGs X (is ++ js) (e :: es) (g :: gs) :=
  pgs_mono (pgs_cons h1 h2 hs) fun vs σ H Q ⟨B, F, C, ρ, ds, E, r, ρ', e, q⟩ => by
    cases r with
    | nil => cases e
    | @cons v vs d ds r rs =>
      have e' : (match g d ρ with | some ρ1 => gtSeq gs ds ρ1 | none => none) = some ρ' := e
      cases z : g d ρ with
      | none => rw [z] at e'; cases e'
      | some ρ1 =>
        rw [z] at e'
        exact ⟨_, _, rfl, B, F, C, ρ, d, E, r, ρ1, z, fun σ1 E1 w1 => ⟨B, F, C, ρ1, ds, E1, rs, ρ', e', fun σ2 E2 w2 => q σ2 E2 fun vs h =>
          (w2 vs fun i hi => h i (List.mem_append_right _ hi)).trans (w1 vs fun i hi => h i (List.mem_append_left _ hi))⟩⟩
theorem gtSeq_len : ∀ {gs : List FG} {ds : List D} {ρ ρ' : Ev}, gtSeq gs ds ρ = some ρ' → ds.length = gs.length
  | [], [], _, _, _ => rfl
  | [], _ :: _, _, _, h => by cases h
  | _ :: _, [], _, _, h => by cases h
  | g :: gs, d :: ds, ρ, ρ', h => by
    have h' : (match g d ρ with | some ρ1 => gtSeq gs ds ρ1 | none => none) = some ρ' := h
    cases z : g d ρ with
    | none => rw [z] at h'; cases h'
    | some ρ1 =>
      rw [z] at h'
      rw [List.length_cons, List.length_cons, gtSeq_len h']
theorem pg_or {tg : Expr} {g1 g2 : TG} (h1 : PG X tg g1) (h2 : PG X tg g2) : PG X tg (fun v σ H Q => g1 v σ H Q ∨ g2 v σ H Q) := ⟨fun pins s σ H v u Q I r q => by
  rcases q with q | q
  · exact h1.run pins s σ H v u Q I r q
  · exact h2.run pins s σ H v u Q I r q⟩
theorem cg_tup {k : Nat} {n : Nat} (hc : X.calm = true) (h : CGs X is es gs) (hl : gs.length = n := by rfl) (hn : (assignEach es X.env).length = n := by rfl) (hst : (assignEach es X.env).findIdx? (·.1) = none := by rfl) : CGt X is (.Tuple es k pos) (gtTup gs) :=
  pg_mono (pg_or (pg_tup hc h hn hst) (pg_unl hc h hn hst)) fun v σ H Q ⟨B, F, C, ρ, d, E, r, ρ', e, q⟩ => by
    cases r with
    | @tup a vs ds hs rs =>
      have e' : gtSeq gs ds ρ = some ρ' := e
      exact .inl ⟨a, vs, rfl, sameT E.hf.sub hs, by rw [rs.length, gtSeq_len e', hl], B, F, C, ρ, ds, E, rs, ρ', e', q⟩
    | @lst a vs ds hs rs =>
      have e' : gtSeq gs ds ρ = some ρ' := e
      exact .inr ⟨a, vs, rfl, .of (E.hf.sub _ _ hs), by rw [rs.length, gtSeq_len e', hl], B, F, C, ρ, ds, E, rs, ρ', e', q⟩
    | _ => cases e
end

/-! ### comprehensions -/
theorem wipe_twice (σ : St) : ∀ vs : List Nat, L2.wipe (L2.wipe σ vs) vs = L2.wipe σ vs := by
  have gen : ∀ (vs ws : List Nat), (∀ i, i ∈ ws → i ∈ vs) → ∀ τ : St, L2.wipe (L2.wipe τ ws) vs = L2.wipe τ vs := by
    intro vs ws
    induction ws with
    | nil => intro _ τ; rfl
    | cons w ws ih =>
      intro h τ
      show L2.wipe ((L2.wipe τ ws).set w none) vs = L2.wipe τ vs
      rw [wipe_set w none _ vs (h w List.mem_cons_self), ih fun i hi => h i (List.mem_cons_of_mem _ hi)]
  intro vs
  exact gen vs vs (fun _ h => h) σ
section
variable {X : Cx} {elt tg iter : Expr} {ifs : List Expr} {scope : Scope} {own : List (Str × Nat)} {pos : Pos} {it : FL} {g : FG} {tf fe : FE}
abbrev CTs (X : Cx) (ifs : List Expr) (f : FE) : Prop := PTs X ifs (tT X.K f)
theorem cts_nil : CTs X [] (fC (.bl true)) := ⟨fun pins s σ H Q I ⟨B, F, C, ρ, E, q⟩ => by
  obtain ⟨b, e, q⟩ := q
  cases e
  exact pts_nil.run pins s σ H Q I (q H F C E.hf.refl)⟩
theorem cts_one {c : Expr} (h : CT X c tf) : CTs X [c] tf := pts_one h
/-- the turns that are left: what they make behind acc is what is wanted -/
theorem lc_go {is : List Nat} (his : ∀ i, i ∈ is → i ∈ own.map (·.2)) {σ : St} {H : Hp} {Q : VK} (h : tG X.K RN (fLc it g tf fe (own.map (·.2))) σ H Q) : tLc (tI X.K PC it) (tTg X.K is g) (tT X.K tf) (tG X.K RF fe) (own.map (·.2)) σ H Q := by
  obtain ⟨B, F, C, ρ, E, q⟩ := h
  refine ⟨B, F, C, ρ, E, (M.all_bind.mp q).mono fun xs q J H1 F1 C1 s1 hz wk => ?_⟩
  obtain ⟨hz, q⟩ := all_if q
  intro D nD
  have nF : F1 D = none := s1.hf.sub.free nD
  have nB : B D = none := (E.step s1).base.free nD
  have nC : C1 ≠ some D := (s1.hf.notNew nD).2
  have nH : H D = none := by
    cases z : H D with
    | none => rfl
    | some o => exact absurd nD (s1.there E.hf (by rw [z]; simp))
  -- what stands ahead of turn i
  let turn : Ev → WK.D → M (List WK.D) := fun ρ' x => match g x ρ' with
    | some ρ2 => (tf ρ2).bind fun b => onB b ((fe ρ2).bind fun d => .ret [d]) (.ret [])
    | none => .bad
  let ρ' := WK.wipe ρ (own.map (·.2))
  let St : Nat → Hp → Prop := fun i H2 => ∃ (F2 : Hp) (C2 : Option Addr) (acc : List V) (ds : List WK.D), Step H1 F1 C1 H2 F2 C2 ∧ H2 D = some (.lst acc) ∧ F2 D = none ∧ C2 ≠ some D ∧ acc.length ≤ i ∧ Rps X.K F2 C2 acc ds ∧
    (mapM (turn ρ') (xs.drop i)).All fun yss => ∀ v H' F' C', Step H F C H' F' C' → RpN X.K H F' H' C' v (.lst (ds ++ yss.flatten)) → Q v H'
  refine ⟨fun i m H2 => m = xs.length - i ∧ i ≤ xs.length ∧ St i H2, ⟨xs.length, by simp, Nat.zero_le _, F1, C1, [], [], s1.hf.laid nD, upd_same, nF, nC, Nat.le_refl _, .nil, ?_⟩, ?_⟩
  · rw [List.drop_zero]
    exact (M.all_bind.mp q).mono fun yss q v H' F' C' s r => q v H' F' C' s r
  · rintro i m H2 ⟨rfl, hi, F2, C2, acc, ds, s2, hD, fD, cD, hacc, rs, q⟩
    have s02 := s1.trans E.hf s2
    obtain ⟨w1, w2⟩ := wk i H2 F2 C2 ⟨s1.hf, s2⟩
    by_cases hlt : i < xs.length
    · have ex : xs[i]? = some xs[i] := List.getElem?_eq_getElem hlt
      obtain ⟨go, yl⟩ := w1 _ ex
      refine .inr ⟨go, St (i + 1), fun H' st => ⟨xs.length - (i + 1), by omega, rfl, hlt, st⟩, fun x H3 y => ?_⟩
      obtain ⟨F3, s3, r3⟩ := yl x H3 y
      have s03 := s02.trans E.hf s3
      have s13 := s2.trans s1.hf s3
      rw [List.drop_eq_getElem_cons hlt] at q
      have q : ((turn ρ' xs[i]).bind fun y => (mapM (turn ρ') (xs.drop (i + 1))).bind fun ys => .ret (y :: ys)).All _ := q
      rw [M.all_bind] at q
      have E3 : EnvOk X.K B (L2.wipe σ (own.map (·.2))) H3 F3 C2 ρ' := (E.step s03).wipe _
      have hD3 : H3 D = some (.lst acc) := s3.same D _ cD hD
      have fD3 : F3 D = none := s3.new D (by rw [hD]; simp) fD
      refine ⟨B, F3, C2, ρ', xs[i], E3, r3, ?_⟩
      cases eg : g xs[i] ρ' with
      | none =>
        have z : turn ρ' xs[i] = .bad := by show (match g xs[i] ρ' with | some _ => _ | none => _) = _; rw [eg]
        rw [z] at q
        exact q.elim
      | some ρ2 =>
        have z : turn ρ' xs[i] = (tf ρ2).bind fun b => onB b ((fe ρ2).bind fun d => .ret [d]) (.ret []) := by show (match g xs[i] ρ' with | some _ => _ | none => _) = _; rw [eg]
        rw [z] at q
        refine ⟨ρ2, rfl, fun σ2 E2 w2 => ⟨?_, ?_⟩⟩
        · exact (w2 _ his).trans (wipe_twice _ _)
        · refine ⟨B, F3, C2, ρ2, E2, (M.all_bind.mp q).mono fun b q => ?_⟩
          obtain ⟨k, e, q'⟩ := all_onB q
          clear q
          subst e
          refine ⟨k, rfl, fun H4 F4 C4 s4 => ?_⟩
          have s04 := s03.trans E.hf s4
          have s14 := s13.trans s1.hf s4
          have hD4 : H4 D = some (.lst acc) := s4.same D _ cD hD3
          have fD4 : F4 D = none := s4.new D (by rw [hD3]; simp) fD3
          have cD4 : C4 ≠ some D := fun z => by
            rcases s4.cupN D z with z | z
            · exact cD z
            · rw [hD3] at z; cases z
          cases k with
          | false =>
            rw [if_neg Bool.false_ne_true] at q'
            refine iteF ?_
            refine ⟨F4, C4, acc, ds, s14, hD4, fD4, cD4, Nat.le_succ_of_le hacc, rs.mono (s3.frz.trans s4.frz) s4.cup, ?_⟩
            exact (M.all_bind.mp q').mono fun ys q v H' F' C' s r => q v H' F' C' s (by simpa using r)
          | true =>
            rw [if_pos rfl] at q'
            refine iteT ?_
            refine ⟨B, F4, C4, ρ2, E2.step s4, (M.all_bind.mp q').mono fun d q v H5 F5 C5 s5 r5 => ?_⟩
            have hD5 : H5 D = some (.lst acc) := s5.same D _ cD4 hD4
            have fD5 : F5 D = none := s5.new D (by rw [hD4]; simp) fD4
            have cD5 : C5 ≠ some D := fun z => by
              rcases s5.cupN D z with z | z
              · exact cD4 z
              · rw [hD4] at z; cases z
            have s15 := s14.trans s1.hf s5
            refine ⟨acc, hD5, Nat.lt_of_le_of_lt hacc (Nat.lt_trans hlt (Nat.lt_trans hz (by decide))), F5, C5, acc ++ [v], ds ++ [d], ?_, upd_same, fD5, cD5, by rw [List.length_append, List.length_singleton]; omega, ((rs.mono (s3.frz.trans (s4.frz.trans s5.frz)) fun c z => s5.cup c (s4.cup c z)).append (.one r5)), ?_⟩
            · exact s15.put hD5 fD5 cD5 nD
            · exact (M.all_bind.mp q).mono fun ys q v H' F' C' s r => q v H' F' C' s (by simpa using r)
    · have e : i = xs.length := by omega
      refine .inl ⟨w2 e, ?_⟩
      rw [e, List.drop_length] at q
      have q : ∀ v H' F' C', Step H F C H' F' C' → RpN X.K H F' H' C' v (.lst (ds ++ ([] : List (List WK.D)).flatten)) → Q v H' := q
      exact q (.ref D) H2 F2 C2 s02 ⟨D, acc, ds, rfl, by simp, nH, hD, fD, cD, rs⟩
end
end WK
end

section
set_option Elab.async false
set_option linter.all false
set_option maxRecDepth 100000
/-! Comprehensions as rules, statements, defs. -/
namespace WK
open PySem L2
section
variable {X : Cx} {elt tg iter : Expr} {ifs : List Expr} {scope : Scope} {own : List (Str × Nat)} {pos : Pos} {it : FL} {g : FG} {tf fe : FE} {is : List Nat}
theorem c_lc (hc : X.calm = true) (hN : X.N.Nodup) (hi : CJ X tg iter it) (ok : BlkOk X.N X.env.scope scope own) (his : ∀ i, i ∈ is → i ∈ own.map (·.2))
    (hg : ∀ (s : Shared) (H : Hp) (C : Addr) (cl : List (Str × Addr)) (fp : List Addr), CGt (X.blk s H scope (compEnvC scope cl C X.env) fp) is tg g)
    (ht : ∀ (s : Shared) (H : Hp) (C : Addr) (cl : List (Str × Addr)) (fp : List Addr), CTs (X.blk s H scope (compEnvC scope cl C X.env) fp) ifs tf)
    (he : ∀ (s : Shared) (H : Hp) (C : Addr) (cl : List (Str × Addr)) (fp : List Addr), CF (X.blk s H scope (compEnvC scope cl C X.env) fp) elt fe)
    (hs : ∀ x, foldedSetIterable iter X.env x = pure x := by intro _; rfl) : CN X (.ListComp elt [⟨tg, iter, ifs, 0⟩] scope pos) (fLc it g tf fe (own.map (·.2))) :=
  pe_mono (pe_lc hc hN hi ok hg ht he hs) fun _ _ _ h => lc_go his h
end

/-! ### statements -/
/-- from F, C on: nothing that stood ahead of the def is changed -/
structure Grow (B F : Hp) (C : Option Addr) (F' : Hp) (C' : Option Addr) : Prop where
  frz : Same F F'
  cup : ∀ c, C = some c → C' = some c
  new : ∀ b, B b ≠ none → F b = none → F' b = none
theorem Grow.refl (B F : Hp) (C : Option Addr) : Grow B F C F C := ⟨Same.refl _, fun _ e => e, fun _ _ e => e⟩
theorem Grow.trans {B F F1 F2 : Hp} {C C1 C2 : Option Addr} (a : Grow B F C F1 C1) (b : Grow B F1 C1 F2 C2) : Grow B F C F2 C2 := ⟨a.frz.trans b.frz, fun c e => b.cup c (a.cup c e), fun x n e => b.new x n (a.new x n e)⟩
theorem EnvOk.grow {K : PySem.W.Frag} {B : Hp} {σ : St} {H F H' F' : Hp} {C C' : Option Addr} {ρ : Ev} (E : EnvOk K B σ H F C ρ) (s : Step H F C H' F' C') : Grow B F C F' C' :=
  ⟨s.frz, s.cup, fun b n e => s.new b (fun z => n (E.base.free z)) e⟩
def Post (K : PySem.W.Frag) (B F : Hp) (C : Option Addr) (D : Ends) : Fl → Prop
  | .nx ρ' => ∀ σ' H' F' C', EnvOk K B σ' H' F' C' ρ' → Grow B F C F' C' → D.nx σ' H'
  | .bk ρ' => ∀ σ' H' F' C', EnvOk K B σ' H' F' C' ρ' → Grow B F C F' C' → D.bk σ' H'
  | .ct ρ' => ∀ σ' H' F' C', EnvOk K B σ' H' F' C' ρ' → Grow B F C F' C' → D.ct σ' H'
  | .rt d => ∀ v H' F' C', HF H' F' C' → Same B H' → (∀ c, C' = some c → B c = none) → Grow B F C F' C' → Rp K F' C' v d → D.rt v H'
theorem Post.grow {K : PySem.W.Frag} {B F F1 : Hp} {C C1 : Option Addr} {D : Ends} (g : Grow B F C F1 C1) : ∀ {fl : Fl}, Post K B F C D fl → Post K B F1 C1 D fl
  | .nx _, p => fun σ' H' F' C' E g' => p σ' H' F' C' E (g.trans g')
  | .bk _, p => fun σ' H' F' C' E g' => p σ' H' F' C' E (g.trans g')
  | .ct _, p => fun σ' H' F' C' E g' => p σ' H' F' C' E (g.trans g')
  | .rt _, p => fun v H' F' C' h b c g' r => p v H' F' C' h b c (g.trans g') r
def tX (K : PySem.W.Frag) (f : FS) : TS := fun D σ H => ∃ B F C ρ, EnvOk K B σ H F C ρ ∧ (f ρ).All (Post K B F C D)
abbrev CS (X : Cx) (st : Stmt) (f : FS) : Prop := PS X st (tX X.K f)
abbrev CSs (X : Cx) (sts : List Stmt) (f : FS) : Prop := PSs X sts (tX X.K f)
section
variable {X : Cx} {st : Stmt} {sts : List Stmt} {e : Expr} {f g : FE} {s t : FS} {pos : Pos} {i j : Nat} {x : Str} {gt : FG} {is : List Nat} {tg : Expr}
theorem ss_nil : CSs X [] sNil := pss_mono pss_nil fun D σ H ⟨B, F, C, ρ, E, q⟩ => q σ H F C E (Grow.refl _ _ _)
theorem seq_go {D : Ends} {σ : St} {H : Hp} (h : tX X.K (sSeq s t) D σ H) : tSeq (tX X.K s) (tX X.K t) D σ H := by
  obtain ⟨B, F, C, ρ, E, q⟩ := h
  refine ⟨B, F, C, ρ, E, (M.all_bind.mp q).mono fun fl q => ?_⟩
  cases fl with
  | nx ρ' => exact fun σ' H' F' C' E' gr => ⟨B, F', C', ρ', E', M.All.mono (fun fl p => p.grow gr) q⟩
  | rt d => exact q
  | bk ρ' => exact q
  | ct ρ' => exact q
theorem ss_cons (h1 : CS X st s) (h2 : CSs X sts t) : CSs X (st :: sts) (sSeq s t) := pss_mono (pss_cons h1 h2) fun _ _ _ h => seq_go h
theorem ss_one (h1 : CS X st s) : CSs X [st] s := pss_one h1
/-- a name's own list is shared from here on -/
theorem ss_frz (i : Nat) (h : CSs X sts s) : CSs X sts (sFrz i s) := pss_mono h fun D σ H ⟨B, F, C, ρ, E, q⟩ => by
  obtain ⟨F', E', sm, nw⟩ := E.freeze i
  exact ⟨B, F', C, frz i ρ, E', M.All.mono (fun fl p => p.grow ⟨sm, fun _ z => z, nw⟩) q⟩
theorem asg_go {D : Ends} {σ : St} {H : Hp} (h : tX X.K (sAsg f gt) D σ H) : tAsg (tG X.K RF f) (tTg X.K is gt) D σ H := by
  obtain ⟨B, F, C, ρ, E, q⟩ := h
  refine ⟨B, F, C, ρ, E, (M.all_bind.mp q).mono fun d q v H1 F1 C1 s1 r1 => ?_⟩
  cases z : gt d ρ with
  | none => rw [z] at q; exact q.elim
  | some ρ' =>
    rw [z] at q
    exact ⟨B, F1, C1, ρ, d, E.step s1, r1, ρ', z, fun σ' E' _ => q σ' H1 F1 C1 E' (E.grow s1)⟩
theorem s_asg (h : PS X st (tAsg (tG X.K RF f) (tTg X.K is gt))) : CS X st (sAsg f gt) := ps_mono h fun _ _ _ q => asg_go q
theorem name_go {D : Ends} {σ : St} {H : Hp} (h : tX X.K (sAsg f (gtName i)) D σ H) : tAsg (tG X.K RF f) (gName i) D σ H := by
  obtain ⟨B, F, C, ρ, E, q⟩ := h
  refine ⟨B, F, C, ρ, E, (M.all_bind.mp q).mono fun d q v H1 F1 C1 s1 r1 => ?_⟩
  unfold gtName at q
  split at q
  next hz =>
    split at hz
    next hi => cases hz; exact q _ H1 F1 C1 ((E.step s1).set r1) (E.grow s1)
    next => cases hz
  next => exact q.elim
/-- name = e -/
theorem s_set (h : PS X st (tAsg (tG X.K RF f) (gName i))) : CS X st (sAsg f (gtName i)) := ps_mono h fun _ _ _ q => name_go q
theorem own_go {D : Ends} {σ : St} {H : Hp} (h : tX X.K (sOwn i f) D σ H) : tAsg (tG X.K RN f) (gName i) D σ H := by
  obtain ⟨B, F, C, ρ, E, q⟩ := h
  refine ⟨B, F, C, ρ, E, (M.all_bind.mp q).mono fun d q v H1 F1 C1 s1 r1 => ?_⟩
  obtain ⟨p, vs, xs, rfl, rfl, np, hp, fp, cp, rs⟩ := r1
  obtain ⟨hi, q⟩ := all_if (m := M.ret (Fl.nx (ρ.set i (.ow xs)))) q
  refine q _ H1 F1 C1 ((E.step s1).setOwn hp rs (E.base.free np) fp cp fun j ys e e2 => ?_) (E.grow s1)
  obtain ⟨p', vs', e1, hp', _⟩ := E.slot j _ e
  rw [e2] at e1
  cases e1
  rw [np] at hp'
  cases hp'
theorem s_own (h : PS X st (tAsg (tG X.K RN f) (gName i))) : CS X st (sOwn i f) := ps_mono h fun _ _ _ q => own_go q
/-- .. where the statement has a rule of its own for a comprehension -/
theorem lcs {own : List (Str × Nat)} {it : FL} {tf fe : FE} {g2 : FG} (h : PS X st (tAsg (tLc (tI X.K PC it) (tTg X.K is g2) (tT X.K tf) (tG X.K RF fe) (own.map (·.2))) (gName i))) (his : ∀ i, i ∈ is → i ∈ own.map (·.2)) :
    PS X st (tAsg (tG X.K RN (fLc it g2 tf fe (own.map (·.2)))) (gName i)) := ps_mono h fun D σ H q => lc_go his q
theorem nf (h : PS X st (tAsg (tG X.K RN f) (gName i))) : PS X st (tAsg (tG X.K RF f) (gName i)) := ps_mono h fun D σ H ⟨B, F, C, ρ, E, q⟩ => ⟨B, F, C, ρ, E, q.mono fun d k v H' F' C' s r => by
  obtain ⟨p, vs, xs, rfl, rfl, np, hp, fp, cp, rs⟩ := r
  exact k _ H' _ C' (s.freeze np hp fp cp) (.lst upd_same (rs.mono (upd_sub fp) fun _ z => z))⟩
/-- a, b = x, y -/
theorem s_par {a b : Expr} (hij : i ≠ j) (h : PS X st (tPar i j (tCons (tG X.K RF f) (tCons (tG X.K RF g) tNil)))) : CS X st (sPar i j f g) := ps_mono h fun D σ H ⟨B, F, C, ρ, E, q⟩ => by
  refine ⟨B, F, C, ρ, E, (M.all_bind.mp q).mono fun d q v H1 F1 C1 s1 r1 => ?_⟩
  refine ⟨B, F1, C1, ρ, E.step s1, (M.all_bind.mp q).mono fun d2 q v2 H2 F2 C2 s2 r2 => ?_⟩
  obtain ⟨hi, q⟩ := all_if q
  have s12 := s1.trans E.hf s2
  exact ⟨v, v2, rfl, q _ H2 F2 C2 (((E.step s12).set (r1.step s2)).set r2) (E.grow s12)⟩
/-- a, b = [..], y where a will change its list -/
theorem s_parO {a b : Expr} (hij : i ≠ j) (h : PS X st (tPar i j (tCons (tG X.K RN f) (tCons (tG X.K RF g) tNil)))) : CS X st (sParO i j f g) := ps_mono h fun D σ H ⟨B, F, C, ρ, E, q⟩ => by
  refine ⟨B, F, C, ρ, E, (M.all_bind.mp q).mono fun d q v H1 F1 C1 s1 r1 => ?_⟩
  obtain ⟨p, vs, xs, rfl, rfl, np, hp, fp, cp, rs⟩ := r1
  refine ⟨B, F1, C1, ρ, E.step s1, (M.all_bind.mp q).mono fun d2 q v2 H2 F2 C2 s2 r2 => ?_⟩
  obtain ⟨hi, q⟩ := all_if q
  have s12 := s1.trans E.hf s2
  have cp2 : C2 ≠ some p := fun z => by
    rcases s2.cupN p z with z | z
    · exact cp z
    · rw [hp] at z; cases z
  refine ⟨.ref p, v2, rfl, q _ H2 F2 C2 (((E.step s12).setOwn (s2.same p _ cp hp) (rs.mono s2.frz s2.cup) (E.base.free np) (s2.new p (by rw [hp]; simp) fp) cp2 fun j ys e e2 => ?_).set r2) (E.grow s12)⟩
  obtain ⟨p', vs', e1, hp', _⟩ := E.slot j _ e
  rw [e2] at e1
  cases e1
  rw [np] at hp'
  cases hp'
theorem s_if {c : Expr} {a b : List Stmt} (hc : CT X c f) (ha : CSs X a s) (hb : CSs X b t) : CS X (.If c a b pos) (sIf f s t) := ps_mono (ps_if hc ha hb) fun D σ H ⟨B, F, C, ρ, E, q⟩ => by
  refine ⟨B, F, C, ρ, E, (M.all_bind.mp q).mono fun d q => ?_⟩
  obtain ⟨k, e, q'⟩ := all_onB q
  clear q
  subst e
  refine ⟨k, rfl, fun H1 F1 C1 s1 => ?_⟩
  cases k with
  | true => exact iteT ⟨B, F1, C1, ρ, E.step s1, M.All.mono (fun fl p => p.grow (E.grow s1)) q'⟩
  | false => exact iteF ⟨B, F1, C1, ρ, E.step s1, M.All.mono (fun fl p => p.grow (E.grow s1)) q'⟩
theorem s_ret (h : CF X e f) : CS X (.Return (some e) pos) (sRet f) := ps_mono (ps_ret h) fun D σ H ⟨B, F, C, ρ, E, q⟩ =>
  ⟨B, F, C, ρ, E, (M.all_bind.mp q).mono fun d q v H1 F1 C1 s1 r1 => q v H1 F1 C1 s1.hf (E.step s1).base (E.step s1).cupB (E.grow s1) r1⟩
theorem s_retN : CS X (.Return none pos) sRetN := ps_mono ps_retN fun D σ H ⟨B, F, C, ρ, E, q⟩ => q .non H F C E.hf E.base E.cupB (Grow.refl _ _ _) .non
theorem s_expr (h : PS X st (tDrop (tG X.K RF f))) : CS X st (sExpr f) := ps_mono h fun D σ H ⟨B, F, C, ρ, E, q⟩ =>
  ⟨B, F, C, ρ, E, (M.all_bind.mp q).mono fun d q v H1 F1 C1 s1 r1 => q σ H1 F1 C1 (E.step s1) (E.grow s1)⟩
theorem s_never : CS X st sNever := ⟨fun _ _ _ _ _ _ ⟨_, _, _, _, _, q⟩ => q.elim⟩
theorem ss_never : CSs X sts sNever := ⟨fun _ _ _ _ _ _ ⟨_, _, _, _, _, q⟩ => q.elim⟩
theorem s_brk : CS X (.Break pos) sBrk := ps_mono ps_break fun D σ H ⟨B, F, C, ρ, E, q⟩ => q σ H F C E (Grow.refl _ _ _)
theorem s_ct : CS X (.Continue pos) sCt := ps_mono ps_continue fun D σ H ⟨B, F, C, ρ, E, q⟩ => q σ H F C E (Grow.refl _ _ _)
theorem s_pass : CS X (.Pass pos) sNil := ps_mono ps_pass fun D σ H ⟨B, F, C, ρ, E, q⟩ => q σ H F C E (Grow.refl _ _ _)
/-- an own list changed -/
theorem EnvOk.put {K : PySem.W.Frag} {B H F : Hp} {C : Option Addr} {σ : St} {ρ : Ev} (E : EnvOk K B σ H F C ρ) {xs ys : List D} {p : Addr} {ws : List V} (e : ρ[i]? = some (.ow xs)) (e1 : σ[i]? = some (some (.ref p))) (r : Rps K F C ws ys) :
    EnvOk K B σ (upd H p (.lst ws)) F C (ρ.set i (.ow ys)) := by
  obtain ⟨p', vs, e1', hp, _, b, fp, cp⟩ := E.slot i _ e
  rw [e1] at e1'
  cases e1'
  have hi : i < ρ.length := (List.getElem?_eq_some_iff.mp e).1
  refine ⟨⟨fun a o z => ?_, fun c z => ?_⟩, fun a o z => ?_, E.cupB, by simpa using E.len, fun k x z => ?_, fun k l q xs' ys' n z1 z2 z3 => ?_⟩
  · rw [upd_ne (ne_of_none z fp)]; exact E.hf.sub a o z
  · obtain ⟨⟨m, n, w⟩, u⟩ := E.hf.cup c z
    exact ⟨⟨m, n, by rw [upd_ne (fun q : c = p => cp (q ▸ z))]; exact w⟩, u⟩
  · rw [upd_ne (ne_of_none z b)]; exact E.base a o z
  · by_cases hk : i = k
    · subst hk
      rw [List.getElem?_set_self hi] at z
      cases z
      exact ⟨p, ws, e1, upd_same, r, b, fp, cp⟩
    · rw [List.getElem?_set_ne hk] at z
      have w := E.slot k x z
      cases x with
      | no => trivial
      | fz d => exact w
      | ow zs =>
        obtain ⟨p2, vs2, w1, w2, w3⟩ := w
        refine ⟨p2, vs2, w1, ?_, w3⟩
        rw [upd_ne]
        · exact w2
        · intro q
          subst q
          exact E.apart i k p2 xs zs hk e z e1 w1
  · have own : ∀ (k : Nat) (zs : List D), (ρ.set i (.ow ys))[k]? = some (.ow zs) → ∃ zs', ρ[k]? = some (.ow zs') := fun k zs z => by
      by_cases hk : i = k
      · subst hk; exact ⟨xs, e⟩
      · rw [List.getElem?_set_ne hk] at z; exact ⟨zs, z⟩
    obtain ⟨a1, b1⟩ := own k xs' z1
    obtain ⟨a2, b2⟩ := own l ys' z2
    exact E.apart k l q a1 a2 n b1 b2 z3
/-- xs.append(e) -/
theorem s_app (h : PS X st (tDrop (tBM X.K "list" rAppend (tVar i) (tCons (tG X.K RF f) tNil)))) : CS X st (sApp i f) := ps_mono h fun D σ H ⟨B, F, C, ρ, E, q⟩ => by
  unfold sApp at q
  cases e : ρ[i]? with
  | none => rw [e] at q; exact q.elim
  | some s =>
    rw [e] at q
    cases s with
    | ow xs =>
      obtain ⟨p, vs, e1, hp, rs, b, fp, cp⟩ := E.slot i _ e
      refine ⟨.ref p, e1, .inl ⟨rfl, vs, .of hp⟩, B, F, C, ρ, E, (M.all_bind.mp q).mono fun d q v H1 F1 C1 s1 r1 => ?_⟩
      obtain ⟨hz, q⟩ := all_if q
      refine ⟨p, vs, v, rfl, rfl, s1.same p _ cp hp, ?_, q _ _ F1 C1 ((E.step s1).put e e1 ((rs.mono s1.frz s1.cup).append (.one r1))) (E.grow s1)⟩
      rw [rs.length]
      exact Nat.lt_trans hz (by decide)
    | _ => exact q.elim
theorem for_go {it : FL} {D : Ends} {σ : St} {H : Hp} (h : tX X.K (sFor it gt s) D σ H) : tFor (tI X.K PL it) (tTg X.K is gt) (tX X.K s) D σ H := by
  obtain ⟨B, F, C, ρ, E, q⟩ := h
  refine ⟨B, F, C, ρ, E, (M.all_bind.mp q).mono fun xs q J H1 F1 C1 s1 hz wk => ?_⟩
  have q : (loop gt s xs ρ).All (Post X.K B F1 C1 D) := M.All.mono (fun fl p => p.grow (E.grow s1)) q
  let St : Nat → L2.St → Hp → Prop := fun i σ2 H2 => ∃ F2 C2 ρ2, EnvOk X.K B σ2 H2 F2 C2 ρ2 ∧ Grow B F1 C1 F2 C2 ∧ (loop gt s (xs.drop i) ρ2).All (Post X.K B F1 C1 D)
  refine ⟨fun i m σ2 H2 => m = xs.length - i ∧ i ≤ xs.length ∧ St i σ2 H2, ⟨xs.length, by simp, Nat.zero_le _, F1, C1, ρ, E.step s1, Grow.refl _ _ _, by rw [List.drop_zero]; exact q⟩, ?_⟩
  rintro i m σ2 H2 ⟨rfl, hi, F2, C2, ρ2, E2, g2, q⟩
  obtain ⟨w1, w2⟩ := wk i H2 F2 C2 ⟨E2.hf, g2.frz, g2.cup⟩
  by_cases hlt : i < xs.length
  · obtain ⟨go, yl⟩ := w1 _ (List.getElem?_eq_getElem hlt)
    refine .inr ⟨go, St (i + 1), fun σ' H' st => ⟨xs.length - (i + 1), by omega, rfl, hlt, st⟩, fun x H3 y => ?_⟩
    obtain ⟨F3, s3, r3⟩ := yl x H3 y
    rw [List.drop_eq_getElem_cons hlt] at q
    have q : (match gt xs[i] ρ2 with
      | none => M.bad
      | some ρ1 => (s ρ1).bind fun fl => match fl with
        | .nx ρ2 => loop gt s (xs.drop (i + 1)) ρ2
        | .ct ρ2 => loop gt s (xs.drop (i + 1)) ρ2
        | .bk ρ2 => .ret (.nx ρ2)
        | .rt d => .ret (.rt d)).All (Post X.K B F1 C1 D) := q
    cases eg : gt xs[i] ρ2 with
    | none => rw [eg] at q; exact q.elim
    | some ρ3 =>
      rw [eg] at q
      have g3 := g2.trans (E2.grow s3)
      refine ⟨B, F3, C2, ρ2, xs[i], E2.step s3, r3, ρ3, eg, fun σ3 E3 _ => ⟨B, F3, C2, ρ3, E3, (M.all_bind.mp q).mono fun fl q => ?_⟩⟩
      cases fl with
      | nx ρ4 => exact fun σ4 H4 F4 C4 E4 g4 => ⟨F4, C4, ρ4, E4, g3.trans g4, q⟩
      | ct ρ4 => exact fun σ4 H4 F4 C4 E4 g4 => ⟨F4, C4, ρ4, E4, g3.trans g4, q⟩
      | bk ρ4 => exact fun σ4 H4 F4 C4 E4 g4 => q σ4 H4 F4 C4 E4 (g3.trans g4)
      | rt d => exact fun v H4 F4 C4 h b c g4 r => q v H4 F4 C4 h b c (g3.trans g4) r
  · have e : i = xs.length := by omega
    rw [e, List.drop_length] at q
    exact .inl ⟨w2 e, q σ2 H2 F2 C2 E2 g2⟩
theorem s_for {iter : Expr} {body : List Stmt} {it : FL} (hp : PassesOwn (model X.prog X.w) X.A X.env X.xe) (hc : X.calm = true) (hi : CI X tg iter it) (hg : CGt X is tg gt) (hb : CSs X body s) (hs : ∀ x, foldedSetIterable iter X.env x = pure x := by intro _; rfl) :
    CS X (.For tg iter body [] pos) (sFor it gt s) := ps_mono (ps_for hp hc hi hg hb hs) fun _ _ _ h => for_go h
theorem while_go {n : Nat} {D : Ends} {σ : St} {H : Hp} (h : tX X.K (sWhile n f s) D σ H) : tWhile (tT X.K f) (tX X.K s) D σ H := by
  obtain ⟨B, F, C, ρ, E, q⟩ := h
  let W : Nat → L2.St → Hp → Prop := fun m σ2 H2 => ∃ F2 C2 ρ2, EnvOk X.K B σ2 H2 F2 C2 ρ2 ∧ Grow B F C F2 C2 ∧ (wloop f s m ρ2).All (Post X.K B F C D)
  refine ⟨W, ⟨n, F, C, ρ, E, Grow.refl _ _ _, q⟩, fun m σ2 H2 ⟨F2, C2, ρ2, E2, g2, q⟩ => ?_⟩
  cases m with
  | zero => exact q.elim
  | succ m =>
    refine ⟨B, F2, C2, ρ2, E2, (M.all_bind.mp q).mono fun d q => ?_⟩
    obtain ⟨k, e, q'⟩ := all_onB q
    clear q
    subst e
    refine ⟨k, rfl, fun H3 F3 C3 s3 => ?_⟩
    have g3 := g2.trans (E2.grow s3)
    cases k with
    | false => exact iteF (q' σ2 H3 F3 C3 (E2.step s3) g3)
    | true =>
      refine iteT ⟨W m, fun σ' H' w => ⟨m, Nat.lt_succ_self m, w⟩, B, F3, C3, ρ2, E2.step s3, (M.all_bind.mp q').mono fun fl q => ?_⟩
      cases fl with
      | nx ρ4 => exact fun σ4 H4 F4 C4 E4 g4 => ⟨F4, C4, ρ4, E4, g3.trans g4, q⟩
      | ct ρ4 => exact fun σ4 H4 F4 C4 E4 g4 => ⟨F4, C4, ρ4, E4, g3.trans g4, q⟩
      | bk ρ4 => exact fun σ4 H4 F4 C4 E4 g4 => q σ4 H4 F4 C4 E4 (g3.trans g4)
      | rt d => exact fun v H4 F4 C4 h b c g4 r => q v H4 F4 C4 h b c (g3.trans g4) r
theorem s_while (n : Nat) {c : Expr} {body : List Stmt} (hp : PassesOwn (model X.prog X.w) X.A X.env X.xe) (hc : CT X c f) (hb : CSs X body s) : CS X (.While c body [] pos) (sWhile n f s) :=
  ps_mono (ps_while hp hc hb) fun _ _ _ h => while_go h
end

/-! ### defs -/
/-- what a def promises: f of its arguments -/
def spF (K : PySem.W.Frag) (n : Nat) (f : List D → M D) : Sp := fun vs H Q _ => vs.length = n ∧ ∃ F C ds, HF H F C ∧ Rps K F C vs ds ∧ (f ds).All fun d => ∀ v H' F' C', Step H F C H' F' C' → Rp K F' C' v d → Q v H'
section
variable {P : Program} {w : World} {K : PySem.W.Frag} {mg : Str → Option Value} {base : Heap}
theorem start_env {N : List Str} {vs : List V} {ds : List D} {H F : Hp} {C : Option Addr} (hf : HF H F C) (r : Rps K F C vs ds) (hN : vs.length ≤ N.length) :
    EnvOk K (fun b => if C = some b then none else H b) (L2.start N vs) H F C (ds.map .fz ++ List.replicate (N.length - ds.length) .no) := by
  refine ⟨hf, fun b o e => ?_, fun c e => by rw [if_pos e], ?_, fun i s e => ?_, fun i j p xs ys n e1 e2 => ?_⟩
  · have e' : (if C = some b then none else H b) = some o := e
    split at e'
    · cases e'
    · exact e'
  · unfold L2.start
    rw [List.length_append, List.length_append, List.length_map, List.length_map, List.length_replicate, List.length_replicate, r.length]
  · by_cases hi : i < ds.length
    · rw [List.getElem?_append_left (by simpa using hi), List.getElem?_map, List.getElem?_eq_getElem hi] at e
      cases e
      obtain ⟨v, e1, rv⟩ := r.get (List.getElem?_eq_getElem hi)
      refine ⟨v, ?_, rv⟩
      unfold L2.start
      rw [List.getElem?_append_left (by rw [List.length_map, r.length]; exact hi), List.getElem?_map, e1]
      rfl
    · rw [List.getElem?_append_right (by simpa using hi), List.getElem?_replicate] at e
      split at e
      · cases e; trivial
      · cases e
  · exfalso
    by_cases hi : i < ds.length
    · rw [List.getElem?_append_left (by simpa using hi), List.getElem?_map, List.getElem?_eq_getElem hi] at e1
      cases e1
    · rw [List.getElem?_append_right (by simpa using hi), List.getElem?_replicate] at e1
      split at e1 <;> cases e1
theorem fn_run {x qual : Str} {params : Arguments} {body : List Stmt} {scope : Scope} {fa : Addr} {fd : FuncData} {N ps : List Str} {k : Nat} {b : FS}
    (Fd : FunD K x qual params body scope [] [] fa fd) (S : FnScope N ps scope)
    (h : ∀ (cdv : Value) (A : Around) (outer : List Env) (s : Shared) (H : Hp) (E : XK), Room k (A.deeper (PyProof.Rows.envOfC qual scope s.heap.objs.size fa cdv)) → CSs (cxOf CX0 P w K mg base N qual scope fa cdv A outer s H E).nox body b) :
    FnOk P w K mg base CX0 (k + 1) fa fd ps (spF K ps.length (run N.length ps.length b)) := by
  refine Fd.ok S (fun vs H Q E h => h.1) fun cdv A outer s H vs Q E hr hsp => ⟨tX K b, PSs.nox (h cdv A outer s H E hr), ?_⟩
  obtain ⟨hl, F, C, ds, hf, r, q⟩ := hsp
  have hd : ds.length = ps.length := by rw [← r.length]; exact hl
  unfold run at q
  rw [if_pos hd] at q
  have hN : vs.length ≤ N.length := by
    rw [hl]
    have := congrArg List.length S.pre
    rw [List.length_take] at this
    omega
  have E0 := start_env (K := K) (N := N) hf r hN
  rw [hd] at E0
  refine ⟨_, F, C, _, E0, (M.all_bind.mp q).mono fun fl q => ?_⟩
  have back : ∀ {H' F' : Hp} {C' : Option Addr}, HF H' F' C' → Same (fun b => if C = some b then none else H b) H' → (∀ c, C' = some c → (if C = some c then none else H c) = none) → Grow (fun b => if C = some b then none else H b) F C F' C' → Step H F C H' F' C' := fun {H' F' C'} hf' bs cb g => by
    refine ⟨hf', fun b o n e => bs b o (by show (if C = some b then none else H b) = some o; rw [if_neg n]; exact e), g.frz, fun b n e => ?_, g.cup, fun c e => ?_⟩
    · by_cases hb : C = some b
      · exact (hf'.cup b (g.cup b hb)).2
      · exact g.new b (by show (if C = some b then none else H b) ≠ none; rw [if_neg hb]; exact n) e
    · have z := cb c e
      split at z
      · exact .inl (by assumption)
      · exact .inr z
  cases fl with
  | rt d => exact fun v H' F' C' hf' bs cb g r => q v H' F' C' (back hf' bs cb g) r
  | nx ρ' => exact fun σ' H' F' C' E' g => q .non H' F' C' (back E'.hf E'.base E'.cupB g) .non
  | bk ρ' => exact q.elim
  | ct ρ' => exact q.elim
end
section
variable {X : Cx} {k : Nat} {fa : Addr} {fd : FuncData} {ps : List Str} {x : Str} {p pos : Pos} {e : Expr} {es : List Expr} {fl : FL} {sf : List D → M D} {n : Nat}
/-- a promise that says how many arguments there are -/
def Arity (n : Nat) (sf : List D → M D) : Prop := ∀ (ds : List D) (P : D → Prop), (sf ds).All P → ds.length = n
theorem arity_run {m n : Nat} {b : FS} : Arity n (run m n b) := fun ds P h => by
  unfold run at h
  exact (all_if h).1
/-- a def called -/
theorem c_call (Fn : FnOk X.prog X.w X.K X.mg X.base CX0 k fa fd ps (spF X.K n sf)) (hsf : Arity n sf) (hr : Room k X.A) (hg : Gl X x) (hm : X.mg x = some (.ref fa)) (hk : PySem.W.keepIn X.K (.ref fa) = true) (hb : Binds X.K fd ps [])
    (ha : CA X (e :: es) fl) (hdb : (x == ("__debug__" : Str)) = false := by decide) (he : starEach (e :: es) X.env = (false, eval e X.env) :: starEach es X.env := by rfl) (hpl : (backTo pos (starEach es X.env)).any (·.1) = false := by rfl) : CF X (.Call (.Name x p) (e :: es) [] pos) (fArgs sf fl) :=
  pe_mono (pe_call Fn hr hg hm hk hb .nil pass0 ha hdb he hpl) fun σ H Q ⟨B, F, C, ρ, E, q⟩ => by
    refine ⟨B, F, C, ρ, E, M.All.mono (fun ds q vs H1 F1 C1 s1 r1 => ?_) (M.all_bind.mp q)⟩
    show spF X.K n sf (vs ++ []) H1 Q E0
    rw [List.append_nil]
    exact ⟨by rw [r1.length]; exact hsf ds _ q, F1, C1, ds, s1.hf, r1, M.All.mono (fun d q v H' F' C' s r => q v H' F' C' (s1.trans E.hf s) r) q⟩
end
end WK
end

section
set_option Elab.async false
set_option linter.all false
set_option maxRecDepth 100000
/-! Built-ins. -/
namespace WK
open PySem L2
section
variable {X : Cx}
theorem cr1 {f : Value} {r : List V → Hp → VK → Prop} {R : RK} {g : D → M D} (h : CallR X f r) (i : ∀ x H Q F C a, HF H F C → RpB X.K F H C x a → ((g a).All fun d => ∀ v H' F' C', Step H F C H' F' C' → R X.K H F' H' C' v d → Q v H') → r [x] H Q) : CallR X f (rC1 X.K R g) :=
  callr_mono h fun xs H Q ⟨x, e, F, C, a, hf, ra, q⟩ => by subst e; exact i x H Q F C a hf ra q
theorem cr2 {f : Value} {r : List V → Hp → VK → Prop} {g : D → D → M D} (h : CallR X f r) (i : ∀ x y H Q F C a b, HF H F C → RpB X.K F H C x a → RpB X.K F H C y b → ((g a b).All fun d => ∀ v H' F' C', Step H F C H' F' C' → Rp X.K F' C' v d → Q v H') → r [x, y] H Q) : CallR X f (rC2 X.K g) :=
  callr_mono h fun xs H Q ⟨x, y, e, F, C, a, b, hf, ra, rb, q⟩ => by subst e; exact i x y H Q F C a b hf ra rb q
theorem bi_len : CallR X (.builtin "len") (rC1 X.K RF gLen) := cr1 (CallR.or call_len_seq call_len_str) fun x H Q F C a hf ra h => by
  cases a with
  | lst xs =>
    obtain ⟨p, vs, rfl, hp, r⟩ := ra.list hf
    refine .inl ⟨p, vs, rfl, .inl (.of hp), ?_⟩
    rw [r.length]
    exact out hf h (.int _)
  | tup xs =>
    obtain ⟨p, vs, rfl, _, hp, r⟩ := ra.tup hf
    refine .inl ⟨p, vs, rfl, .inr hp, ?_⟩
    rw [r.length]
    exact out hf h (.int _)
  | str s =>
    cases ra.str
    obtain ⟨hz, h⟩ := all_fit h
    refine .inr ⟨SS s, rfl, by rw [ss_length]; exact Nat.le_of_lt (fits hz), ?_⟩
    rw [ss_length]
    exact out hf h (.int _)
  | _ => exact h.elim
theorem all_mopt {α : Type} {P : D → Prop} {o : Option α} {g : α → M D} (h : (onO o g).All P) : ∃ a, o = some a ∧ (g a).All P := by
  cases o with
  | none => exact h.elim
  | some a => exact ⟨a, rfl, h⟩
theorem bi_all (hc : X.calm = true) : CallR X (.builtin "all") (rC1 X.K RF gAll) := cr1 (cr_all hc) fun x H Q F C a hf ra h => by
  cases a with
  | lst xs =>
    obtain ⟨p, vs, rfl, hp, r⟩ := ra.list hf
    obtain ⟨bs, e, h⟩ := all_mopt h
    cases r.bools e
    exact ⟨p, bs, rfl, .of hp, out hf h (.bl _)⟩
  | _ => exact h.elim
theorem bi_sum (hc : X.calm = true) : CallR X (.builtin "sum") (rC1 X.K RF gSum) := cr1 (cr_sum hc) fun x H Q F C a hf ra h => by
  cases a with
  | lst xs =>
    obtain ⟨p, vs, rfl, hp, r⟩ := ra.list hf
    obtain ⟨bs, e, h⟩ := all_mopt h
    cases r.ints e
    exact ⟨p, bs, rfl, .of hp, out hf h (.int _)⟩
  | _ => exact h.elim
theorem maxI_spec : ∀ (ns : List Int) (m : Int), m ∈ ns → (∀ y, y ∈ ns → y ≤ m) → maxI ns = m
  | [], m, h, _ => by simp at h
  | [x], m, h, _ => by simp at h; subst h; rfl
  | x :: y :: r, m, h, k => by
    show max x (maxI (y :: r)) = m
    have hx : x ≤ m := k x List.mem_cons_self
    rcases List.mem_cons.mp h with e | h'
    · subst e
      have hle : ∀ (l : List Int), l ≠ [] → (∀ z, z ∈ l → z ≤ m) → maxI l ≤ m := by
        intro l
        induction l with
        | nil => intro z; exact absurd rfl z
        | cons a l ih =>
          intro _ hz
          cases l with
          | nil => exact hz a List.mem_cons_self
          | cons b l =>
            have := ih (by simp) fun z hz' => hz z (List.mem_cons_of_mem _ hz')
            have := hz a List.mem_cons_self
            show max a (maxI (b :: l)) ≤ m
            omega
      have := hle (y :: r) (by simp) fun z hz => k z (List.mem_cons_of_mem _ hz)
      omega
    · rw [maxI_spec (y :: r) m h' fun z hz => k z (List.mem_cons_of_mem _ hz)]
      omega
theorem minI_spec : ∀ (ns : List Int) (m : Int), m ∈ ns → (∀ y, y ∈ ns → m ≤ y) → minI ns = m
  | [], m, h, _ => by simp at h
  | [x], m, h, _ => by simp at h; subst h; rfl
  | x :: y :: r, m, h, k => by
    show min x (minI (y :: r)) = m
    have hx : m ≤ x := k x List.mem_cons_self
    rcases List.mem_cons.mp h with e | h'
    · subst e
      have hle : ∀ (l : List Int), l ≠ [] → (∀ z, z ∈ l → m ≤ z) → m ≤ minI l := by
        intro l
        induction l with
        | nil => intro z; exact absurd rfl z
        | cons a l ih =>
          intro _ hz
          cases l with
          | nil => exact hz a List.mem_cons_self
          | cons b l =>
            have := ih (by simp) fun z hz' => hz z (List.mem_cons_of_mem _ hz')
            have := hz a List.mem_cons_self
            show m ≤ min a (minI (b :: l))
            omega
      have := hle (y :: r) (by simp) fun z hz => k z (List.mem_cons_of_mem _ hz)
      omega
    · rw [minI_spec (y :: r) m h' fun z hz => k z (List.mem_cons_of_mem _ hz)]
      omega
theorem asInts_len : ∀ {xs : List D} {ns : List Int}, asInts xs = some ns → ns.length = xs.length
  | [], ns, e => by cases e; rfl
  | x :: xs, ns, e => by
    cases x with
    | int i =>
      have e' : (asInts xs).map (i :: ·) = some ns := e
      cases q : asInts xs with
      | none => rw [q] at e'; cases e'
      | some ms => rw [q] at e'; cases e'; rw [List.length_cons, List.length_cons, asInts_len q]
    | _ => exact nomatch e
theorem bi_max (hc : X.calm = true) : CallR X (.builtin "max") (rC1 X.K RF gMaxL) := cr1 (cr_max hc) fun x H Q F C a hf ra h => by
  cases a with
  | lst xs =>
    cases xs with
    | nil => exact h.elim
    | cons d xs =>
      obtain ⟨p, vs, rfl, hp, r⟩ := ra.list hf
      obtain ⟨ns, e, h⟩ := all_mopt h
      cases r.ints e
      refine ⟨p, ns, rfl, .of hp, by rw [asInts_len e]; simp, fun m h1 h2 => ?_⟩
      rw [maxI_spec ns m h1 h2] at h
      exact out hf h (.int _)
  | _ => exact h.elim
theorem bi_min (hc : X.calm = true) : CallR X (.builtin "min") (rC1 X.K RF gMinL) := cr1 (cr_min hc) fun x H Q F C a hf ra h => by
  cases a with
  | lst xs =>
    cases xs with
    | nil => exact h.elim
    | cons d xs =>
      obtain ⟨p, vs, rfl, hp, r⟩ := ra.list hf
      obtain ⟨ns, e, h⟩ := all_mopt h
      cases r.ints e
      refine ⟨p, ns, rfl, .of hp, by rw [asInts_len e]; simp, fun m h1 h2 => ?_⟩
      rw [minI_spec ns m h1 h2] at h
      exact out hf h (.int _)
  | _ => exact h.elim
theorem bi_max2 (hc : X.calm = true) : CallR X (.builtin "max") (rC2 X.K gMax2) := cr2 (call_max2 hc) fun x y H Q F C a b hf ra rb h => by
  cases a with
  | int i =>
    cases b with
    | int j => cases ra.int; cases rb.int; exact ⟨i, j, rfl, out hf h (.int _)⟩
    | _ => exact h.elim
  | _ => exact h.elim
theorem bi_min2 (hc : X.calm = true) : CallR X (.builtin "min") (rC2 X.K gMin2) := cr2 (call_min2 hc) fun x y H Q F C a b hf ra rb h => by
  cases a with
  | int i =>
    cases b with
    | int j => cases ra.int; cases rb.int; exact ⟨i, j, rfl, out hf h (.int _)⟩
    | _ => exact h.elim
  | _ => exact h.elim
theorem bi_tuple : CallR X (.type "tuple") (rC1 X.K RF gTuple) := cr1 call_tuple_of fun x H Q F C a hf ra h => by
  cases a with
  | lst xs =>
    obtain ⟨p, vs, rfl, hp, r⟩ := ra.list hf
    exact ⟨p, vs, rfl, .inl ⟨.of hp, outT hf h r⟩⟩
  | tup xs =>
    obtain ⟨p, vs, rfl, hpF, hp, r⟩ := ra.tup hf
    exact ⟨p, vs, rfl, .inr ⟨hp, out hf h (.tup hpF r)⟩⟩
  | _ => exact h.elim
theorem bi_list : CallR X (.type "list") (rC1 X.K RN gList) := cr1 call_list_of fun x H Q F C a hf ra h => by
  cases a with
  | lst xs =>
    obtain ⟨p, vs, rfl, hp, r⟩ := ra.list hf
    exact ⟨p, vs, rfl, .inl (.of hp), outN hf h r⟩
  | tup xs =>
    obtain ⟨p, vs, rfl, hpF, hp, r⟩ := ra.tup hf
    exact ⟨p, vs, rfl, .inr hp, outN hf h r⟩
  | _ => exact h.elim
theorem bi_int : CallR X (.type "int") (rC1 X.K RF gInt) := cr1 call_int1 fun x H Q F C a hf ra h => by
  cases a with
  | int i => cases ra.int; exact .inl ⟨i, rfl, out hf h (.int _)⟩
  | _ => exact h.elim
theorem bi_str : CallR X (.type "str") (rC1 X.K RF gStr) := cr1 SkE.call_str_str fun x H Q F C a hf ra h => by
  cases a with
  | str i => cases ra.str; exact ⟨SS i, rfl, out hf h (.str _)⟩
  | _ => exact h.elim
theorem isort_perm : ∀ ns : List Int, (isort ns).Perm ns
  | [] => .nil
  | x :: xs => by
    have ip : ∀ l : List Int, (ins x l).Perm (x :: l) := by
      intro l
      induction l with
      | nil => exact List.Perm.refl _
      | cons y ys ih =>
        show (if x ≤ y then x :: y :: ys else y :: ins x ys).Perm _
        split
        · exact List.Perm.refl _
        · exact (List.Perm.cons y ih).trans (List.Perm.swap x y ys)
    exact (ip (isort xs)).trans (List.Perm.cons x (isort_perm xs))
theorem isort_le : ∀ ns : List Int, (isort ns).Pairwise (· ≤ ·)
  | [] => .nil
  | x :: xs => by
    have ip : ∀ l : List Int, l.Pairwise (· ≤ ·) → (ins x l).Pairwise (· ≤ ·) := by
      intro l
      induction l with
      | nil => intro _; exact List.pairwise_singleton _ _
      | cons y ys ih =>
        intro h
        obtain ⟨h1, h2⟩ := List.pairwise_cons.mp h
        show (if x ≤ y then x :: y :: ys else y :: ins x ys).Pairwise _
        split
        · rename_i hxy
          refine List.pairwise_cons.mpr ⟨fun z hz => ?_, h⟩
          rcases List.mem_cons.mp hz with e | hz
          · subst e; exact hxy
          · exact Int.le_trans hxy (h1 z hz)
        · rename_i hxy
          refine List.pairwise_cons.mpr ⟨fun z hz => ?_, ih h2⟩
          have : ∀ (l : List Int) (z : Int), z ∈ ins x l → z = x ∨ z ∈ l := by
            intro l
            induction l with
            | nil => intro z hz; exact .inl (by simpa [ins] using hz)
            | cons a l ih =>
              intro z hz
              have hz : z ∈ (if x ≤ a then x :: a :: l else a :: ins x l) := hz
              split at hz
              · rcases List.mem_cons.mp hz with e | hz
                · exact .inl e
                · exact .inr hz
              · rcases List.mem_cons.mp hz with e | hz
                · exact .inr (e ▸ List.mem_cons_self)
                · rcases ih z hz with e | h
                  · exact .inl e
                  · exact .inr (List.mem_cons_of_mem _ h)
          rcases this ys z hz with e | hz
          · subst e; omega
          · exact h1 z hz
    exact ip _ (isort_le xs)
theorem sorted_uniq : ∀ {a b : List Int}, a.Perm b → a.Pairwise (· ≤ ·) → b.Pairwise (· ≤ ·) → a = b
  | [], b, p, _, _ => (List.nil_perm.mp p).symm
  | x :: xs, [], p, _, _ => absurd (List.perm_nil.mp p) (by simp)
  | x :: xs, y :: ys, p, ha, hb => by
    obtain ⟨a1, a2⟩ := List.pairwise_cons.mp ha
    obtain ⟨b1, b2⟩ := List.pairwise_cons.mp hb
    have e : x = y := by
      have h1 : x ∈ y :: ys := p.subset List.mem_cons_self
      have h2 : y ∈ x :: xs := p.symm.subset List.mem_cons_self
      rcases List.mem_cons.mp h1 with e | h1
      · exact e
      · rcases List.mem_cons.mp h2 with e | h2
        · exact e.symm
        · have := a1 y h2
          have := b1 x h1
          omega
    subst e
    rw [sorted_uniq (List.perm_cons x |>.mp p) a2 b2]
theorem bi_sorted : CallR X (.builtin "sorted") (rC1 X.K RN gSorted) := cr1 cr_sortedI fun x H Q F C a hf ra h => by
  cases a with
  | lst xs =>
    obtain ⟨p, vs, rfl, hp, r⟩ := ra.list hf
    obtain ⟨ns, e, h⟩ := all_mopt h
    cases r.ints e
    refine ⟨p, ns, rfl, .of hp, fun ns' q pm rs nq => ?_⟩
    have e2 : ns' = isort ns := sorted_uniq (pm.trans (isort_perm ns).symm) rs (isort_le ns)
    rw [e2]
    exact outN hf h (Rps.ofInts _) q nq
  | _ => exact h.elim
/-! ### isinstance -/
def tyName : Ty → String
  | .int => "int"
  | .bool => "bool"
  | .str => "str"
  | .tuple => "tuple"
  | .list => "list"
theorem tup_ty {K : PySem.W.Frag} {H : Hp} {a : Addr} {vs : List V} (h : SqT K H a vs) : TyX K H (.ref a) (.type "tuple") := by
  rcases h with (h | ⟨o, h⟩) | ⟨o, its, n, h, c, _⟩
  · exact .base (.tup h)
  · exact .fTuple h
  · exact .kTuple h c
theorem isi_go {K : PySem.W.Frag} {H F : Hp} {C : Option Addr} {x : V} {d : D} {t : Ty} {b : Bool} (hf : HF H F C) (r : RpB K F H C x d) (e : isTy t d = some b) : ∃ T : String, TyX K H x (.type T) ∧ PySem.W.kitOne K (.type T) (.type (tyName t)) = some b := by
  cases d with
  | non => cases r.non; exact ⟨_, .base .non, kit_ty (by cases t <;> cases e <;> decide +kernel)⟩
  | bl _ => cases r.bl; exact ⟨_, .base (.bl _), kit_ty (by cases t <;> cases e <;> decide +kernel)⟩
  | int _ => cases r.int; exact ⟨_, .base (.int _), kit_ty (by cases t <;> cases e <;> decide +kernel)⟩
  | str _ => cases r.str; exact ⟨_, .base (.str _), kit_ty (by cases t <;> cases e <;> decide +kernel)⟩
  | tup xs =>
    obtain ⟨p, vs, rfl, _, hp, _⟩ := r.tup hf
    exact ⟨_, tup_ty hp, kit_ty (by cases t <;> cases e <;> decide +kernel)⟩
  | lst xs =>
    obtain ⟨p, vs, rfl, hp, _⟩ := r.list hf
    exact ⟨_, .base (.lst hp), kit_ty (by cases t <;> cases e <;> decide +kernel)⟩
  | cup => cases t <;> cases e
  | scr => cases t <;> cases e
variable {a : Expr} {f : FE} {p p2 pos : Pos} {y : Str}
theorem c_isi (t : Ty) (hg : Gl X "isinstance") (hm : X.mg "isinstance" = none) (hg2 : Gl X y) (hm2 : X.mg y = none) (hv2 : bootBuiltins y = some (.type (tyName t))) (ha : CB X a f) (hn2 : y ≠ "__name__" := by decide) (hd2 : (y == ("__debug__" : Str)) = false := by decide)
    (he : starEach [a, .Name y p2] X.env = (false, eval a X.env) :: starEach [.Name y p2] X.env := by rfl) (hpl : (backTo pos (starEach [.Name y p2] X.env)).any (·.1) = false := by rfl) : CF X (.Call (.Name "isinstance" p) [a, .Name y p2] [] pos) (fUn (gIsT t) f) :=
  pe_mono (pe_callB call_isi hg hm (by decide +kernel) (pa_cons ha (pa_cons (pe_bltn (v := .ty (tyName t)) hg2 hm2 hv2 rfl hn2 hd2) pa_nil) he) (by decide) (by decide) he hpl) fun σ H Q ⟨B, F, C, ρ, E, q⟩ => by
    refine ⟨B, F, C, ρ, E, M.All.mono (fun d q v H1 F1 C1 s1 r1 => ?_) (M.all_bind.mp q)⟩
    unfold gIsT at q
    cases e : isTy t d with
    | none => rw [e] at q; exact q.elim
    | some b =>
      rw [e] at q
      obtain ⟨T, ty, k⟩ := isi_go s1.hf r1 e
      exact ⟨v, .ty (tyName t), .type T, .type (tyName t), b, rfl, .ty _, ty, k, q _ H1 F1 C1 s1 (.bl b)⟩

/-! ### texts -/
theorem joinL_nil : ∀ ys : List (List Nat), TL.joinL [] ys = ys.flatten
  | [] => rfl
  | [x] => by simp [TL.joinL]
  | x :: y :: r => by
    show x ++ ([] ++ TL.joinL [] (y :: r)) = x ++ (y :: r).flatten
    rw [joinL_nil (y :: r), List.nil_append]
theorem sum_lens (ss : List (List Nat)) : ((ss.map SS).map (·.length)).sum = (ss.map List.length).sum := by
  rw [List.map_map]
  congr 1
def tStr1 (r : V → List V → Hp → VK → Prop) (to te : TE) : TE := tM1 r to te
/-- "".join(xs) -/
theorem c_join {apos : Pos} {s0 : Str} {k} (hs0 : s0 = SS [] := by decide +kernel) (ha : CB X a f) (hs : starEach [a] X.env = [(false, eval a X.env)] := by rfl) (hbase : attributeBase (.Constant (.str s0) k p) "join" X.env (eval (.Constant (.str s0) k p) X.env) = eval (.Constant (.str s0) k p) X.env := by rfl) (hline : (apos.endLine == pos.line) = true := by rfl) :
    CF X (.Call (.Attribute (.Constant (.str s0) k p) "join" apos) [a] [] pos) (fUn gJoin f) :=
  pe_mono (L2.pe_join (o := .Constant (.str s0) k p) pe_str ha hs hbase hline) fun σ H Q ⟨B, F, C, ρ, E, q⟩ => by
    subst hs0
    refine ⟨⟨_, rfl⟩, B, F, C, ρ, E, M.All.mono (fun d q v H1 F1 C1 s1 r1 => ?_) (M.all_bind.mp q)⟩
    have go : ∀ (p : Addr) (ss : List (List Nat)), (SqL X.K H1 p ((ss.map SS).map V.str) ∨ SqT X.K H1 p ((ss.map SS).map V.str)) → (fit (ss.map List.length).sum (.ret (.str ss.flatten))).All (fun d => ∀ v H' F' C', Step H F C H' F' C' → Rp X.K F' C' v d → Q v H') →
        ∃ a p', ∃ ys : List Str, V.str (SS []) = .str a ∧ [V.ref p] = [.ref p'] ∧ (SqL X.K H1 p' (ys.map V.str) ∨ SqT X.K H1 p' (ys.map V.str)) ∧ (ys.map (·.length)).sum + ys.length * a.length ≤ 16777216 ∧ Q (.str (Txt.join a ys)) H1 := fun p ss hp q => by
      obtain ⟨hz, q⟩ := all_fit q
      refine ⟨_, p, ss.map SS, rfl, rfl, hp, ?_, ?_⟩
      · rw [sum_lens, ss_length]
        have := fits hz
        have e : sizeLine = 16777216 := sizeLine_eq
        simp only [List.length_nil, Nat.mul_zero, Nat.add_zero]
        omega
      · rw [SX.join_S, joinL_nil]
        exact q _ H1 F1 C1 s1 (.str _)
    cases d with
    | lst xs =>
      obtain ⟨p, vs, rfl, hp, r⟩ := r1.list s1.hf
      obtain ⟨ss, e, q⟩ := all_mopt q
      cases r.strs e
      exact go p ss (.inl (.of hp)) q
    | tup xs =>
      obtain ⟨p, vs, rfl, _, hp, r⟩ := r1.tup s1.hf
      obtain ⟨ss, e, q⟩ := all_mopt q
      cases r.strs e
      exact go p ss (.inr hp) q
    | _ => exact q.elim
theorem cnt_sign (c : Nat) : ∀ l : List Nat, PyProof.Rows.cnt c l = (l.count c : Nat)
  | [] => rfl
  | n :: r => by
    rw [PyProof.Rows.cnt_cons, cnt_sign c r, List.count_cons]
    by_cases h : n = c
    · simp [h]; omega
    · simp [h]
/-- s.count(c), c one sign -/
theorem c_count {b : Expr} {g : FE} {apos : Pos} (ha : CB X a f) (hb : CB X b g) (hs : starEach [b] X.env = [(false, eval b X.env)] := by rfl) (hbase : attributeBase a "count" X.env (eval a X.env) = eval a X.env := by rfl) (hline : (apos.endLine == pos.line) = true := by rfl) :
    CF X (.Call (.Attribute a "count" apos) [b] [] pos) (fOp gCount (fUn asStr f) g) :=
  pe_mono (pe_m1 PySem.F.slot_str_count PySem.F.type_str_count mt_count ha hb hs hbase hline) fun σ H Q ⟨B, F, C, ρ, E, q⟩ => by
    refine ⟨B, F, C, ρ, E, M.All.mono (fun d q x H1 F1 C1 s1 r1 => ?_) (M.all_bind.mp (M.all_bind.mp q))⟩
    cases d with
    | str s =>
      cases r1.str
      refine ⟨⟨_, rfl⟩, B, F1, C1, ρ, E.step s1, M.All.mono (fun d2 q y H2 F2 C2 s2 r2 => ?_) (M.all_bind.mp q)⟩
      cases d2 with
      | str t =>
        match t, q, r2 with
        | [c], q, r2 =>
          cases r2.str
          refine ⟨_, _, rfl, rfl, ?_⟩
          rw [show SS [c] = ⟨#[c]⟩ from rfl, PyProof.Rows.count_is]
          have := cnt_sign c s
          unfold PyProof.Rows.cnt at this
          show Q (.int (PySem.Spec.countIn _ ((SS s).cps.toList.map _))) H2
          rw [show (SS s).cps.toList = s from rfl, this]
          exact q _ H2 F2 C2 (s1.trans E.hf s2) (.int _)
        | [], q, _ => exact q.elim
        | _ :: _ :: _, q, _ => exact q.elim
      | _ => exact q.elim
    | _ => exact q.elim
end
end WK
end

section
set_option Elab.async false
set_option linter.all false
set_option maxRecDepth 100000
set_option maxHeartbeats 4000000
/-! sorted(set(a list of ints)). -/
namespace WK
open PySem L2
/-- the object that set() lays -/
abbrev young (w : World) : Obj := { cls := .type "set", dict := none, data := .set #[] 0 (.fresh 0 0 (!w.params.followText "set-order")) }
section
variable {P : Program} {w : World} {A : Around} {E : Value → Shared → Prop} {s : Shared}
/-- what a filled set leaves -/
def Filled (w : World) (s : Shared) (ns : List Int) (h' : Heap) (c : Nat) : Prop :=
  SetR w h' s.heap.objs.size (fun j => decide (j ∈ ns)) c ∧ c ≤ ns.length ∧ ∀ b o, s.heap.get? b = some o → h'.get? b = some o
theorem old_ne {h : Heap} {b : Addr} {o : Obj} (e : h.get? b = some o) : b ≠ h.objs.size := Nat.ne_of_lt (Heap.lt_size e)
theorem set_init {l : Addr} {items : Array Value} (ns : List Int) (hh : A.handled = none) (hl : s.heap.IsList l items) (hit : PyProof.Rows.IntsAre items.toList ns) (hz : items.size = ns.length) (hb : ns.length + 1 < scanBound) {Q : Value → Shared → Prop}
    (h : ∀ (h' : Heap) (tk c : Nat), Filled w s ns h' c → Q .none { s with heap := h', toks := tk }) :
    codeAny (model P w) A (.call (.builtin "set.__init__") ⟨[.ref s.heap.objs.size, .ref l], []⟩) (wants Q E) { s with heap := s.heap.push (young w) } := by
  have hS : (s.heap.push (young w)).get? s.heap.objs.size = some (young w) := Heap.get?_push_size _ rfl
  have hT : Shared.TypeIs { s with heap := s.heap.push (young w) } (.ref s.heap.objs.size) "set" := ⟨_, hS, rfl⟩
  obtain ⟨⟨oc, od, odt, os⟩, hol, hcl, nl, hdl⟩ := hl
  simp only at hcl hdl
  subst hcl hdl
  have up1 : (s.heap.push (young w)).get? l = some { cls := .type "list", dict := od, data := .seq items nl, slots := os } := Heap.get?_push_of_some _ hol
  have q1 := F.sub_list_set
  have q2 := F.sub_list_frozenset
  have q3 : (Value.type "list" == Value.type "dict") = false := by decide
  have up2 : (s.heap.push (young w)).IsList l items := ⟨_, up1, rfl, nl, rfl⟩
  refine codeAny_call_builtin F.called_set.init.plain F.entry_set_init (check_set_init_1 hT ?_)
  unfold Builtin.«set.__init__» noKeywords Builtin.Frozenset.updateFrom
  generalize hg : pyIter = it
  wp_walk
  subst hg
  refine wpAny_pyIter_list up2 (wpAny_bind (wpAny_runValue ?_))
  have zz : (s.heap.push (young w)).objs.size = s.heap.objs.size + 1 := Heap.size_push ..
  have lt := Heap.lt_size hol
  have n1 : l ≠ (s.heap.push (young w)).objs.size := by rw [zz]; exact Nat.ne_of_lt (Nat.lt_succ_of_lt lt)
  have n2 : s.heap.objs.size ∉ [(s.heap.push (young w)).objs.size, l] := by
    simp only [List.mem_cons, List.not_mem_nil, or_false, not_or]
    exact ⟨by rw [zz]; exact Nat.ne_of_lt (Nat.lt_succ_self _), Nat.ne_of_gt lt⟩
  have hv : ∀ (i : Nat) (v : Value), items[i]? = some v → ∃ k t, ns[i]? = some k ∧ v = .int k t := fun i v hv => by
    have hi : i < ns.length := hz ▸ (Array.getElem?_eq_some_iff.mp hv).1
    obtain ⟨t, e⟩ := PyProof.Rows.IntsAre.int_at hit i v (by rw [Array.getElem?_toList]; exact hv)
    have e2 := List.getElem?_eq_getElem hi
    exact ⟨ns[i], t, e2, by rw [e, List.getD_eq_getElem?_getD, e2]; rfl⟩
  refine set_update_ints ((Walks.list (by simp [hh]) _ l n1 items).toS) s.heap.objs.size n2 ns hz hb hv (items.size - 0) 0 _ (by omega) (Nat.zero_le _) ⟨⟨_, Heap.get?_push_size _ rfl, rfl, rfl⟩, up2.push _⟩
    ⟨0, Nat.le_refl 0, setR_new_at (Heap.get?_push_of_some _ hS)⟩ fun s' c hm hc' hS' => ?_
  obtain ⟨h', g2, d', tk', os'⟩ := s'
  cases (show g2 = s.gens from hm.gens)
  cases (show d' = s.drawn from hm.drawn)
  cases (show os' = s.os from hm.os)
  show wpAny _ _ _ _ _ _
  refine wpAny_pure ?_
  show wpAny _ _ (ret Value.none) _ _ _
  refine wpAny_pure (h h' tk' c ⟨hS', hz ▸ hc', fun b o e => hm.heap b o ?_ (Heap.get?_push_of_some _ (Heap.get?_push_of_some _ e))⟩)
  have := Heap.lt_size e
  simp only [List.mem_cons, List.not_mem_nil, or_false, not_or]
  exact ⟨Nat.ne_of_lt this, by rw [zz]; exact Nat.ne_of_lt (Nat.lt_succ_of_lt this)⟩
theorem set_of_list {l : Addr} {items : Array Value} (ns : List Int) (hh : A.handled = none) (hl : s.heap.IsList l items) (hit : PyProof.Rows.IntsAre items.toList ns) (hz : items.size = ns.length) (hb : ns.length + 1 < scanBound) {Q : Value → Shared → Prop}
    (h : ∀ (h' : Heap) (tk c : Nat), Filled w s ns h' c → Q (.ref s.heap.objs.size) { s with heap := h', toks := tk }) :
    wpAny (model P w) A (call (.type "set") [.ref l]) Q E s := by
  obtain ⟨c, tl, hmro⟩ := F.called_set.mro
  have hmade := F.called_set.made
  have hsub := F.called_set.sub
  have h1 := F.called_set.notType
  have h2 := F.called_set.canCreate
  have hct := F.typeCall_set_1 (.ref l)
  have hS : (s.heap.push (young w)).get? s.heap.objs.size = some (young w) := Heap.get?_push_size _ rfl
  have hT : Shared.TypeIs { s with heap := s.heap.push (young w) } (.ref s.heap.objs.size) "set" := ⟨_, hS, rfl⟩
  have hli := F.called_set.init.lookup
  have hbi := F.called_set.init.bind (.ref s.heap.objs.size)
  refine wpAny_call (codeAny_of_tree ?_)
  show wpAny _ _ (callAny (.type "set") _) _ _ _
  refine wpAny_pure ⟨Code.quiet_builtin _ (by decide +kernel), codeAny_builtin F.entry_type_call ?_⟩
  rw [Around.under_plain (weight_type_call_type "set" [.ref l] []) rfl]
  repeat (any_goals (first | assumption | wp_step))
  refine codeAny_mono (code_set_led1 (.ref l) (E := E) (Q₁ := fun x s1 => x = .ref s.heap.objs.size ∧ s1 = { s with heap := s.heap.push (young w) }) ⟨rfl, rfl⟩) fun r s1 hr => ?_
  match r, hr with
  | .error e, hr => exact hr
  | .ok (.ret x), ⟨e1, e2⟩ =>
    subst e1 e2
    repeat (any_goals (first | assumption | wp_step))
    refine codeAny_mono (set_init (P := P) (A := A.in1) (E := E) (Q := fun x s2 => x = .none ∧ ∃ h' tk c, s2 = { s with heap := h', toks := tk } ∧ Filled w s ns h' c) ns (by simp [hh]) hl hit hz hb fun h' tk c f => ⟨rfl, h', tk, c, rfl, f⟩) fun r2 s2 hr2 => ?_
    match r2, hr2 with
    | .error e, hr2 => exact hr2
    | .ok (.ret y), ⟨e1, h', tk, c2, e2, f⟩ =>
      subst e1 e2
      repeat (any_goals (first | assumption | wp_step))
      exact h _ _ _ f
end
end WK
end

section
set_option Elab.async false
set_option linter.all false
set_option maxRecDepth 100000
namespace WK
open PySem L2
section
variable {X : Cx}
def rSetL (K : PySem.W.Frag) (w : World) : List V → Hp → VK → Prop := fun vs H Q => ∃ (p : Addr) (ns : List Int), vs = [.ref p] ∧ SqL K H p (ns.map V.int) ∧ ns.length ≤ 4000 ∧ ∀ a n, H a = none → (∀ ms : List Int, ms.Nodup → (∀ k, k ∈ ms ↔ k ∈ ns) → n = ms.length) → Q (.ref a) (upd H a (SetO w a (fun j => decide (j ∈ ns)) n))
theorem cr_setL (hc : X.calm = true) : CallR X (.type "set") (rSetL X.K X.w) := by
  intro pins s σ H xs us Q I r h
  obtain ⟨p, ns, rfl, hp, hl, q⟩ := h
  rw [Vals.ref1 r]
  obtain ⟨its, rv, ⟨o, n, ho, hcl, hdn, hd⟩, hz⟩ := I.list hp
  have hi : PyProof.Rows.IntsAre its.toArray.toList ns := ints_of_vals rv
  have hsz : its.toArray.size = ns.length := by
    have := hi.length
    rw [Array.length_toList] at this
    exact this
  refine set_of_list ns (I.ok.hd hc) ⟨o, ho, hcl, n, hd⟩ hi hsz (by unfold scanBound; omega) fun h' tk c ⟨R, hcn, k⟩ => ?_
  refine ⟨.ref _, upd H s.heap.objs.size (SetO X.w s.heap.objs.size (fun j => decide (j ∈ ns)) c), I.laid k (Nat.le_refl _) (setO_new R), rfl, q _ c (I.hok.fresh (Nat.le_refl _)) fun ms nd hm => ?_⟩
  obtain ⟨o, es, ep, t, _, _, _, _, nd2, hm2, _, _, hn, _⟩ := R
  have pm : ms.Perm (es.toList.map keyOf) := (List.perm_ext_iff_of_nodup nd nd2).2 fun k => by rw [hm k, ← hm2 k, decide_eq_true_eq]
  rw [pm.length_eq, List.length_map, Array.length_toList]
  exact hn.symm
theorem dedup_go : ∀ (ns l : List Int), l.Nodup → (ns.foldl (fun l k => if l.any (· == k) then l else l ++ [k]) l).Nodup ∧ ∀ k, k ∈ ns.foldl (fun l k => if l.any (· == k) then l else l ++ [k]) l ↔ k ∈ l ∨ k ∈ ns
  | [], l, h => ⟨h, fun k => by simp⟩
  | n :: r, l, h => by
    rw [List.foldl_cons]
    by_cases q : l.any (· == n) = true
    · rw [if_pos q]
      obtain ⟨a, b⟩ := dedup_go r l h
      refine ⟨a, fun k => ?_⟩
      rw [b k, List.mem_cons]
      have hm : n ∈ l := by
        obtain ⟨x, hx, e⟩ := List.any_eq_true.mp q
        rw [beq_iff_eq.mp e] at hx
        exact hx
      constructor
      · rintro (z | z)
        · exact .inl z
        · exact .inr (.inr z)
      · rintro (z | z | z)
        · exact .inl z
        · exact .inl (z ▸ hm)
        · exact .inr z
    · rw [if_neg q]
      have hm : n ∉ l := fun z => q (List.any_eq_true.mpr ⟨n, z, beq_self_eq_true n⟩)
      obtain ⟨a, b⟩ := dedup_go r (l ++ [n]) (by
        rw [List.nodup_append]
        exact ⟨h, by simp, fun x hx y hy e => hm (by rw [List.mem_singleton.mp hy] at e; exact e ▸ hx)⟩)
      refine ⟨a, fun k => ?_⟩
      rw [b k, List.mem_append, List.mem_singleton, List.mem_cons, or_assoc]
theorem dedup_nodup (ns : List Int) : (dedupI ns).Nodup := (dedup_go ns [] List.nodup_nil).1
theorem dedup_mem (ns : List Int) (k : Int) : k ∈ dedupI ns ↔ k ∈ ns := by
  refine ((dedup_go ns [] List.nodup_nil).2 k).trans ⟨fun h => h.resolve_left List.not_mem_nil, .inr⟩
theorem lt_nodup {l : List Int} (h : l.Pairwise (· < ·)) : l.Nodup := h.imp fun a e => by omega
variable {e : Expr} {f : FE} {p p2 pos pos2 : Pos}
/-- sorted(set(xs)), ints -/
theorem c_sortedSet (hk : X.calm = true) (hg : Gl X "sorted") (hm : X.mg "sorted" = none) (hg2 : Gl X "set") (hm2 : X.mg "set" = none) (ha : CB X e f)
    (he : starEach [e] X.env = (false, eval e X.env) :: starEach [] X.env := by rfl) (hpl : (backTo pos2 (starEach [] X.env)).any (·.1) = false := by rfl)
    (he2 : starEach [.Call (.Name "set" p2) [e] [] pos2] X.env = (false, eval (.Call (.Name "set" p2) [e] [] pos2) X.env) :: starEach [] X.env := by rfl) (hpl2 : (backTo pos (starEach [] X.env)).any (·.1) = false := by rfl) :
    CN X (.Call (.Name "sorted" p) [.Call (.Name "set" p2) [e] [] pos2] [] pos) (fUn gSortedSet f) :=
  pe_mono (pe_callB (cr_sortedSet hk) hg hm PyProof.Rows.boot_sorted (pa_cons (pe_callTy (cr_setL hk) hg2 hm2 PyProof.Rows.boot_set (pa_cons ha pa_nil he) (by decide) (by decide) he hpl) pa_nil he2) (by decide) (by decide) he2 hpl2) fun σ H Q ⟨B, F, C, ρ, E, q⟩ => by
    refine ⟨B, F, C, ρ, E, M.All.mono (fun d q v H1 F1 C1 s1 r1 => ?_) (M.all_bind.mp q)⟩
    cases d with
    | lst xs =>
      obtain ⟨p, vs, rfl, hp, r⟩ := r1.list s1.hf
      obtain ⟨ns, e, q⟩ := all_mopt q
      cases r.ints e
      by_cases z : (dedupI ns).length < 64 ∧ ns.length < 4000
      · rw [if_pos z] at q
        refine ⟨p, ns, rfl, .of hp, by omega, fun a n na hn => ⟨a, _, n, rfl, upd_same, by rw [hn _ (dedup_nodup ns) (dedup_mem ns)]; exact z.1, fun ms p2 hs hmm hl np2 => ?_⟩⟩
        have e1 : ms = isort (dedupI ns) := by
          refine sorted_uniq ?_ (hs.imp fun h => by omega) (isort_le _)
          exact ((List.perm_ext_iff_of_nodup (lt_nodup hs) (dedup_nodup ns)).2 fun k => by rw [hmm k, dedup_mem, decide_eq_true_eq]).trans (isort_perm _).symm
        rw [e1]
        have s2 := s1.hf.laid (o := SetO X.w a (fun j => decide (j ∈ ns)) n) na
        have s3 := s2.hf.laid (o := .lst ((isort (dedupI ns)).map V.int)) np2
        exact q _ _ _ _ (s1.trans E.hf (s2.trans s1.hf s3)) ⟨p2, _, _, rfl, rfl, Classical.byContradiction fun z => (s1.trans E.hf s2).there E.hf z np2, upd_same, (s2.hf.notNew np2).1, (s2.hf.notNew np2).2, Rps.ofInts _⟩
      · rw [if_neg z] at q
        exact q.elim
    | _ => exact q.elim
end
end WK
end

section
set_option Elab.async false
set_option linter.all false
set_option maxRecDepth 100000
/-! A def of the top by its name; what stands behind it. -/
namespace WK
open PySem L2
section
variable {X : Cx} {st : Stmt} {f g h : FE} {i j l : Nat} {x : Str} {p pos : Pos} {e : Expr} {es : List Expr} {fl : FL}
theorem c_gint {n : Int} (hg : Gl X x) (hm : ∃ t, X.mg x = some (.int n t)) (hd : (x == ("__debug__" : Str)) = false := by decide) : CF X (.Name x p) (fC (.int n)) := by
  obtain ⟨t, hm⟩ := hm
  exact c_of (pe_glob (v := .int n) hg hm ⟨t, rfl⟩ hd) fun _ _ => .int n
theorem c_gstr (z : List Nat) {s : Str} (hg : Gl X x) (hm : ∃ t, X.mg x = some (.str s t)) (hs : s = SS z := by decide +kernel) (hd : (x == ("__debug__" : Str)) = false := by decide) : CF X (.Name x p) (fC (.str z)) := by
  obtain ⟨t, hm⟩ := hm
  subst hs
  exact c_of (pe_glob (v := .str (SS z)) hg hm ⟨t, rfl⟩ hd) fun _ _ => .str z
/-- a name's own value moves on with a step -/
theorem owN {K : PySem.W.Frag} {B H F : Hp} {C : Option Addr} {σ : L2.St} {ρ : Ev} {p : Addr} (E : EnvOk K B σ H F C ρ) (np : H p = none) : ∀ (j : Nat) (ys : List D), ρ[j]? = some (.ow ys) → σ[j]? ≠ some (some (.ref p)) := fun j ys e e2 => by
  obtain ⟨p', vs', e1, hp', _⟩ := E.slot j _ e
  rw [e2] at e1
  cases e1
  rw [np] at hp'
  cases hp'
theorem no_set {σ : L2.St} {ρ : Ev} {p : Addr} {i : Nat} {v : V} {d : D} (no : ∀ (j : Nat) (ys : List D), ρ[j]? = some (.ow ys) → σ[j]? ≠ some (some (.ref p))) : ∀ (j : Nat) (ys : List D), (ρ.set i (.fz d))[j]? = some (.ow ys) → (σ.set i (some v))[j]? ≠ some (some (.ref p)) := fun j ys e => by
  by_cases hj : i = j
  · subst hj
    by_cases hi : i < ρ.length
    · rw [List.getElem?_set_self hi] at e
      cases e
    · rw [List.getElem?_eq_none (by simpa using hi)] at e
      cases e
  · rw [List.getElem?_set_ne hj] at e ⊢
    exact no j ys e
theorem s_par3 (h3 : PS X st (tPar3 i j l (tCons (tG X.K RF f) (tCons (tG X.K RF g) (tCons (tG X.K RF h) tNil))))) : CS X st (sPar3 i j l f g h) := ps_mono h3 fun D σ H ⟨B, F, C, ρ, E, q⟩ => by
  refine ⟨B, F, C, ρ, E, (M.all_bind.mp q).mono fun d q v H1 F1 C1 s1 r1 => ?_⟩
  refine ⟨B, F1, C1, ρ, E.step s1, (M.all_bind.mp q).mono fun d2 q v2 H2 F2 C2 s2 r2 => ?_⟩
  have s12 := s1.trans E.hf s2
  refine ⟨B, F2, C2, ρ, E.step s12, (M.all_bind.mp q).mono fun d3 q v3 H3 F3 C3 s3 r3 => ?_⟩
  obtain ⟨hi, q⟩ := all_if q
  have s13 := s12.trans E.hf s3
  exact ⟨v, v2, v3, rfl, q _ H3 F3 C3 ((((E.step s13).set ((r1.step s2).step s3)).set (r2.step s3)).set r3) (E.grow s13)⟩
theorem s_par3O (h3 : PS X st (tPar3 i j l (tCons (tG X.K RF f) (tCons (tG X.K RF g) (tCons (tG X.K RN h) tNil))))) : CS X st (sPar3O i j l f g h) := ps_mono h3 fun D σ H ⟨B, F, C, ρ, E, q⟩ => by
  refine ⟨B, F, C, ρ, E, (M.all_bind.mp q).mono fun d q v H1 F1 C1 s1 r1 => ?_⟩
  refine ⟨B, F1, C1, ρ, E.step s1, (M.all_bind.mp q).mono fun d2 q v2 H2 F2 C2 s2 r2 => ?_⟩
  have s12 := s1.trans E.hf s2
  refine ⟨B, F2, C2, ρ, E.step s12, (M.all_bind.mp q).mono fun d3 q v3 H3 F3 C3 s3 r3 => ?_⟩
  obtain ⟨p, vs, xs, rfl, rfl, np, hp, fp, cp, rs⟩ := r3
  obtain ⟨hi, q⟩ := all_if (m := M.ret _) q
  have s13 := s12.trans E.hf s3
  have E3 := ((E.step s13).set (i := i) ((r1.step s2).step s3)).set (i := j) (r2.step s3)
  have bp : B p = none := (E.step s12).base.free np
  exact ⟨v, v2, .ref p, rfl, q _ H3 F3 C3 (E3.setOwn hp rs bp fp cp (no_set (no_set (owN (E.step s12) np)))) (E.grow s13)⟩
theorem s_parB (hij : i ≠ j) (h2 : PS X st (tPar i j (tCons (tG X.K RF f) (tCons (tG X.K RN g) tNil)))) : CS X st (sParB i j f g) := ps_mono h2 fun D σ H ⟨B, F, C, ρ, E, q⟩ => by
  refine ⟨B, F, C, ρ, E, (M.all_bind.mp q).mono fun d q v H1 F1 C1 s1 r1 => ?_⟩
  refine ⟨B, F1, C1, ρ, E.step s1, (M.all_bind.mp q).mono fun d2 q v2 H2 F2 C2 s2 r2 => ?_⟩
  obtain ⟨p, vs, xs, rfl, rfl, np, hp, fp, cp, rs⟩ := r2
  obtain ⟨hi, q⟩ := all_if (m := M.ret _) q
  have s12 := s1.trans E.hf s2
  have E2 := (E.step s12).set (i := i) (r1.step s2)
  exact ⟨v, .ref p, rfl, q _ H2 F2 C2 (E2.setOwn hp rs ((E.step s1).base.free np) fp cp (no_set (owN (E.step s1) np))) (E.grow s12)⟩
/-! ### a def of the top -/
def Fn1 (K : PySem.W.Frag) (mg : Str → Option Value) (x : Str) (st : Stmt) : Prop := ∃ f fd, mg x = some (.ref f) ∧ FunD K x x (defArgs st) (defBody st) (defScope st) [] [] f fd
def OkF (P : Program) (w : World) (K : PySem.W.Frag) (mg : Str → Option Value) (base : Heap) (k : Nat) (x : Str) (ps : List Str) (sf : List D → M D) : Prop :=
  ∃ f fd, mg x = some (.ref f) ∧ PySem.W.keepIn K (.ref f) = true ∧ Binds K fd ps [] ∧ FnOk P w K mg base CX0 k f fd ps (spF K ps.length sf) ∧ Arity ps.length sf
theorem c_callO {k m : Nat} {ps : List Str} {sf : List D → M D} (O : OkF X.prog X.w X.K X.mg X.base k x ps sf) (hr : Room m X.A) (hkm : k ≤ m) (hg : Gl X x)
    (ha : CA X (e :: es) fl) (hdb : (x == ("__debug__" : Str)) = false := by decide) (he : starEach (e :: es) X.env = (false, eval e X.env) :: starEach es X.env := by rfl) (hpl : (backTo pos (starEach es X.env)).any (·.1) = false := by rfl) : CF X (.Call (.Name x p) (e :: es) [] pos) (fArgs sf fl) := by
  obtain ⟨f, fd, hm, kp, b, F, a⟩ := O
  exact c_call (F.mono hkm) a hr hg hm kp b ha hdb he hpl
end
section
variable {P : Program} {w : World} {K : PySem.W.Frag} {mg : Str → Option Value} {base : Heap}
theorem okF_run {x : Str} {st : Stmt} {N ps : List Str} {k : Nat} {b : FS} (D : Fn1 K mg x st) (S : FnScope N ps (defScope st))
    (hb : ∀ (kV doc pm : Value) (an : Option Addr) (cdv ct : Value) (us : List Value), us.length = ps.length → bindArgs (PySem.W.fnOf x x (defArgs st) (defBody st) (defScope st) .none kV doc pm an cdv ct) ⟨us, []⟩ = pure (ps.zip us))
    (h : ∀ (fa : Addr) (cdv : Value) (A : Around) (outer : List Env) (s : Shared) (H : Hp) (E : XK), Room k (A.deeper (PyProof.Rows.envOfC x (defScope st) s.heap.objs.size fa cdv)) → CSs (cxOf CX0 P w K mg base N x (defScope st) fa cdv A outer s H E).nox (defBody st) b) :
    OkF P w K mg base (k + 1) x ps (run N.length ps.length b) := by
  obtain ⟨f, fd, hm, F⟩ := D
  exact ⟨f, fd, hm, F.kp, F.bindsN hb, fn_run F S (h f), arity_run⟩
theorem OkF.mono {j k : Nat} {x : Str} {ps : List Str} {sf : List D → M D} (O : OkF P w K mg base j x ps sf) (h : j ≤ k) : OkF P w K mg base k x ps sf := by
  obtain ⟨f, fd, hm, kp, b, F, a⟩ := O
  exact ⟨f, fd, hm, kp, b, F.mono h, a⟩
end
end WK
end

section
set_option Elab.async false
set_option linter.all false
set_option maxRecDepth 100000
/-! The law's own draws: a cup of two cells. -/
namespace WK
open PySem L2
def rInt1 : List V → Hp → VK → Prop := fun xs H Q => (∃ i, xs = [V.int i] ∧ Q (V.int i) H) ∨ ∃ k, xs = [V.bl k] ∧ Q (V.int (if k = true then 1 else 0)) H
def tCell (K : PySem.W.Frag) (i : Int) : TE := tOp (rIxL K) (tVar 0) (tC (.int i))
def tInt (t : TE) : TE := tCB rInt1 (tCons t tNil)
def tMod (t u : TE) : TE := tOp (rI (fun _ j => 0 < j) fun i j => V.int (i % j)) t u
def tDiv (t u : TE) : TE := tOp (rI CDiv fun i j => V.int (i / j)) t u
def tMul (t u : TE) : TE := tOp (rI CMul fun i j => V.int (i * j)) t u
def tPlus (t u : TE) : TE := tOp (rI0 fun i j => V.int (i + j)) t u
def gCell (i : Int) : TG := L2.gSub (tVar 0) (tC (.int i)) L2.rSetL
def tRoll (K : PySem.W.Frag) (a b m c m2 d : Int) : TS :=
  tSeq (tIfS (tTest (tOp (rI0 fun i j => V.bl (decide (j < i))) (tCell K 0) (tC (.int 0))))
      (tSeq (tAsg (tMod (tInt (tCell K 0)) (tVar 1)) (gName 2)) (tSeq (tAsg (tDiv (tCell K 0) (tVar 1)) (gCell 0)) (tRet (tVar 2)))) tNext)
    (tSeq (tAsg (tMod (tInt (tPlus (tMul (tCell K 1) (tC (.int a))) (tC (.int b)))) (tC (.int m))) (gCell 1))
    (tSeq (tAsg (tMod (tInt (tMul (tCell K 1) (tPlus (tCell K 1) (tC (.int c))))) (tC (.int m2))) (gName 3))
      (tRet (tMod (tInt (tDiv (tVar 3) (tC (.int d)))) (tVar 1)))))
section
variable {K : PySem.W.Frag} {σ : L2.St} {H : Hp} {Q : VK} {p : Addr} {x y : Int}
theorem cell_get (e : σ[0]? = some (some (.ref p))) (h : H p = some (.lst [.int x, .int y])) (q : Q (.int x) H) : tCell K 0 σ H Q :=
  ⟨_, e, p, _, 0, _, rfl, rfl, SqL.of h, rfl, q⟩
theorem cell_get1 (e : σ[0]? = some (some (.ref p))) (h : H p = some (.lst [.int x, .int y])) (q : Q (.int y) H) : tCell K 1 σ H Q :=
  ⟨_, e, p, _, 1, _, rfl, rfl, SqL.of h, rfl, q⟩
end
/-- the cells of the cup changed -/
theorem HF.fill {H F : Hp} {C : Option Addr} {c : Addr} (h : HF H F C) (e : C = some c) (x y : Int) : Step H F C (upd H c (.lst [.int x, .int y])) F C := by
  have hc := (h.cup c e).2
  refine ⟨⟨fun b u z => ?_, fun b z => ?_⟩, fun b o n z => ?_, Same.refl _, fun _ _ z => z, fun _ z => z, fun _ z => .inl z⟩
  · rw [upd_ne (ne_of_none z hc)]; exact h.sub b u z
  · rw [e] at z; cases z
    exact ⟨⟨x, y, upd_same⟩, hc⟩
  · rw [upd_ne (fun q : b = c => n (by rw [q]; exact e))]; exact z
theorem mod_draw {n x : Int} (h : 0 < n) : ∃ i : Nat, i < n.toNat ∧ x % n = (i : Int) := by
  have h1 := Int.emod_nonneg x (by omega : n ≠ 0)
  have h2 := Int.emod_lt_of_pos x h
  exact ⟨(x % n).toNat, by omega, by omega⟩
theorem roll_go {K : PySem.W.Frag} {a b m c m2 d : Int} (ha : (-(2 ^ 31) < a ∧ a < 2 ^ 31) ∧ (0 < m ∧ m < 2 ^ 31) ∧ 0 < m2 ∧ 0 < d ∧ d < 1073741824)
    {vs : List V} {H : Hp} {Q : VK} {E : XK} (h : spF K 2 gRoll vs H Q E) : tRoll K a b m c m2 d { nx := fun _ H' => Q V.non H', rt := Q } (L2.start ["cup", "many", "found", "deep"] vs) H := by
  obtain ⟨hl, F, C, ds, hf, rs, q⟩ := h
  cases rs with
  | nil => exact q.elim
  | cons r1 rs =>
    cases rs with
    | nil => cases r1 <;> exact q.elim
    | cons r2 rs =>
      cases rs with
      | cons r3 rs => cases r1 <;> cases r2 <;> exact q.elim
      | nil =>
        cases r1 with
        | @cup p hp =>
          cases r2 with
          | int n =>
            obtain ⟨hn, q⟩ := all_if q
            obtain ⟨⟨x, y, hx⟩, hF⟩ := hf.cup p hp
            have fin : ∀ z H', Step H F C H' F C → Q (.int (z % n)) H' := fun z H' s => by
              obtain ⟨i, hi, e⟩ := mod_draw (x := z) hn.1
              rw [e]
              exact q.2 i hi _ H' F C s (.int _)
            refine cell_get rfl hx ⟨x, 0, rfl, rfl, ?_⟩
            refine ⟨_, rfl, ?_⟩
            by_cases hx0 : (0 : Int) < x
            · rw [decide_eq_true hx0]
              refine iteT ?_
              refine cell_get rfl hx (.inl ⟨x, rfl, .int n, rfl, x, n, rfl, rfl, hn.1, ?_⟩)
              refine cell_get rfl hx ⟨.int n, rfl, x, n, rfl, rfl, ⟨hn.1, by omega⟩, ?_⟩
              refine ⟨.ref p, rfl, p, _, 0, 0, rfl, rfl, hx, rfl, ?_⟩
              exact ⟨_, rfl, fin _ _ (hf.fill hp _ _)⟩
            · rw [decide_eq_false hx0]
              refine iteF ?_
              refine cell_get1 rfl hx ⟨y, a, rfl, rfl, .inr ⟨by omega, by omega⟩, _, b, rfl, rfl, .inl ⟨_, rfl, ?_⟩⟩
              refine ⟨_, m, rfl, rfl, ha.2.1.1, .ref p, rfl, p, _, 1, 1, rfl, rfl, hx, rfl, ?_⟩
              have z0 := Int.emod_nonneg (y * a + b) (by omega : m ≠ 0)
              have z1 := Int.emod_lt_of_pos (y * a + b) ha.2.1.1
              have hx2 : upd H p (.lst [.int x, .int ((y * a + b) % m)]) p = some (.lst [.int x, .int ((y * a + b) % m)]) := upd_same
              refine cell_get1 rfl hx2 (cell_get1 rfl hx2 ⟨_, c, rfl, rfl, _, _, rfl, rfl, .inl ⟨by omega, by omega⟩, .inl ⟨_, rfl, _, m2, rfl, rfl, ha.2.2.1, ?_⟩⟩)
              refine ⟨_, rfl, _, d, rfl, rfl, ⟨ha.2.2.2.1, ha.2.2.2.2⟩, .inl ⟨_, rfl, _, rfl, _, n, rfl, rfl, hn.1, ?_⟩⟩
              exact fin _ _ (hf.fill hp _ _)
          | _ => exact q.elim
        | _ => cases r2 <;> exact q.elim

/-! ### the cup made, the law -/
def spCup (K : PySem.W.Frag) : Sp := fun vs H Q _ => ∃ (a : Addr) (ns : List Int), vs = [.ref a] ∧ SqL K H a (ns.map V.int) ∧ ns.length ≤ 63 ∧ ∀ p x y H', H p = none → H' p = some (.lst [.int x, .int y]) → Same H H' → Q (.ref p) H'
def OkC (P : Program) (w : World) (K : PySem.W.Frag) (mg : Str → Option Value) (base : Heap) : Prop :=
  ∃ f fd, mg "_law_cup" = some (.ref f) ∧ PySem.W.keepIn K (.ref f) = true ∧ Binds K fd ["script"] [] ∧ FnOk P w K mg base CX0 1 f fd ["script"] (spCup K)
def rLstOf (K : PySem.W.Frag) : List V → Hp → VK → Prop := fun xs H Q => ∃ p ys, xs = [.ref p] ∧ (SqL K H p ys ∨ SqT K H p ys) ∧ ∀ l, H l = none → Q (.ref l) (upd H l (.lst ys))
def rAbs : List V → Hp → VK → Prop := fun xs H Q => ∃ i, xs = [V.int i] ∧ Q (V.int (if i < 0 then -i else i)) H
def tFirst (K : PySem.W.Frag) : TE := tOp (rIxL K) (tOp rCat (tCB (rLstOf K) (tCons (tVar 0) tNil)) (tLst (tCons (tC (.int 0)) tNil))) (tC (.int 0))
def tCup (K : PySem.W.Frag) (d a b m c : Int) : TS :=
  tSeq (tAsg (tCB rAbs (tCons (tFirst K) tNil)) (gName 1))
    (tRet (tLst (tCons (tIf (tTest (tOp (rI0 fun i j => V.bl (decide (j ≤ i))) (tVar 1) (tOp (rI CPow fun i j => .int (i ^ j.toNat)) (tC (.int 10)) (tC (.int 18))))) (tDiv (tVar 1) (tC (.int d))) (tC (.int 0)))
      (tCons (tPlus (tMod (tInt (tPlus (tMul (tVar 1) (tC (.int a))) (tC (.int b)))) (tC (.int m))) (tC (.int c))) tNil))))

theorem head_ints (ns : List Int) : ∃ k : Int, atI (ns.map V.int ++ [V.int 0]) 0 = some (.int k) := by
  cases ns with
  | nil => exact ⟨0, rfl⟩
  | cons n r => exact ⟨n, atI_nat (j := 0) rfl⟩
theorem cup_go {K : PySem.W.Frag} {d a b m c : Int} (ha : (-(2 ^ 31) < a ∧ a < 2 ^ 31) ∧ 0 < m ∧ 0 < d ∧ d < 1073741824)
    {vs : List V} {H : Hp} {Q : VK} {E : XK} (h : spCup K vs H Q E) : tCup K d a b m c { nx := fun _ H' => Q V.non H', rt := Q } (L2.start ["script", "cell"] vs) H := by
  obtain ⟨l, ns, rfl, hl, hz, q⟩ := h
  obtain ⟨k, hk⟩ := head_ints ns
  refine ⟨_, rfl, l, _, rfl, .inl hl, fun l1 n1 => ?_⟩
  refine ⟨by decide, fun l2 n2 => ⟨l1, l2, ns.map V.int, [V.int 0], rfl, rfl, ?_, upd_same, ?_, fun l3 n3 => ?_⟩⟩
  · rw [upd_ne (ne_of_none upd_same n2)]; exact upd_same
  · rw [List.length_map]
    have e : sizeLine = 16777216 := sizeLine_eq
    show ns.length + 1 ≤ sizeLine
    omega
  refine ⟨l3, _, 0, _, rfl, rfl, SqL.of upd_same, hk, k, rfl, ?_⟩
  have sm : Same H (upd (upd (upd H l1 (.lst (ns.map V.int))) l2 (.lst [V.int 0])) l3 (.lst (ns.map V.int ++ [V.int 0]))) := (upd_sub n1).trans ((upd_sub n2).trans (upd_sub n3))
  generalize upd (upd (upd H l1 (.lst (ns.map V.int))) l2 (.lst [V.int 0])) l3 (.lst (ns.map V.int ++ [V.int 0])) = H3 at sm
  generalize hx : (if k < 0 then -k else k) = x
  have e1 : ((([V.ref l].map some ++ [none]).set 1 (some (.int x)) : L2.St))[1]? = some (some (.int x)) := rfl
  have q0 : ∀ u v, ∀ p, H3 p = none → Q (.ref p) (upd H3 p (.lst [.int u, .int v])) := fun u v p np => q p u v _ (sm.free np) upd_same (sm.trans (upd_sub np))
  have q1 : ∀ u, tCons (tPlus (tMod (tInt (tPlus (tMul (tVar 1) (tC (.int a))) (tC (.int b)))) (tC (.int m))) (tC (.int c))) tNil (([V.ref l].map some ++ [none]).set 1 (some (.int x))) H3 fun xs H4 => ([V.int u] ++ xs).length ≤ sizeLine ∧ ∀ p, H4 p = none → Q (.ref p) (upd H4 p (.lst ([V.int u] ++ xs))) := fun u =>
    ⟨_, e1, _, a, rfl, rfl, .inr ⟨by omega, by omega⟩, _, b, rfl, rfl, .inl ⟨_, rfl, _, m, rfl, rfl, ha.2.1, _, c, rfl, rfl, (by decide : 2 ≤ sizeLine), q0 u _⟩⟩
  refine ⟨_, e1, 10, 18, rfl, rfl, ⟨by decide, by decide, by decide⟩, x, _, rfl, rfl, _, rfl, ?_⟩
  by_cases hg : (10 : Int) ^ (18 : Int).toNat ≤ x
  · rw [decide_eq_true hg]
    refine iteT ⟨_, e1, x, d, rfl, rfl, ⟨ha.2.2.1, ha.2.2.2⟩, q1 _⟩
  · rw [decide_eq_false hg]
    refine iteF (q1 _)

/-- the law: its first statement makes the cup, the rest b is walked in a frame with it -/
def tLaw (K : PySem.W.Frag) (b : FS) : TS := tSeq (tAsg (tCall (spCup K) [] E0 (tCons (tVar 0) tNil)) (gName 1)) (tX K b)
def spLaw (K : PySem.W.Frag) : Sp := fun vs H Q _ => ∃ (a : Addr) (ns : List Int), vs = [.ref a] ∧ SqL K H a (ns.map V.int) ∧ ns.length ≤ 63 ∧ ∀ H', Q (.bl true) H'
theorem law_go {K : PySem.W.Frag} {b : FS} {N : List Str} {n : Nat} (hN : N.length = n + 2) (hb : (lawM n b).All isTrue1) {vs : List V} {H : Hp} {Q : VK} {E : XK} (h : spLaw K vs H Q E) :
    tLaw K b { nx := fun _ H' => Q V.non H', rt := Q } (L2.start N vs) H := by
  obtain ⟨a, ns, rfl, hs, hl, q⟩ := h
  have es : L2.start N [V.ref a] = some (V.ref a) :: none :: List.replicate n none := by
    unfold L2.start
    have : N.length - 1 = n + 1 := by omega
    simp [this, List.replicate_succ]
  rw [es]
  refine ⟨_, rfl, a, ns, rfl, hs, hl, fun p x y H' np hp sm => ?_⟩
  refine ⟨H, fun _ => none, some p, lawEnv n, ⟨⟨fun b u z => (nomatch z), fun c z => (by cases z; exact ⟨⟨x, y, hp⟩, rfl⟩)⟩, sm, fun c z => (by cases z; exact np), (by simp [lawEnv]), fun i s e => ?_, fun i j p xs ys _ e => ?_⟩, ?_⟩
  · match i, e with
    | 0, e => cases e; trivial
    | 1, e => cases e; exact ⟨_, rfl, .cup rfl⟩
    | i + 2, e =>
      have e : (List.replicate n Sl.no)[i]? = some s := e
      rw [List.getElem?_replicate] at e
      split at e
      · cases e; trivial
      · cases e
  · exfalso
    match i, e with
    | 0, e => cases e
    | 1, e => cases e
    | i + 2, e =>
      have e : (List.replicate n Sl.no)[i]? = some (Sl.ow xs) := e
      rw [List.getElem?_replicate] at e
      split at e <;> cases e
  · refine (M.all_bind.mp hb).mono fun fl w => ?_
    cases fl with
    | rt d =>
      cases d with
      | bl k =>
        cases k with
        | true =>
          intro v H' F' C' _ _ _ _ r
          cases r
          exact q H'
        | false => exact w.elim
      | _ => exact w.elim
    | _ => exact w.elim
theorem fn_law {P : Program} {w : World} {K : PySem.W.Frag} {mg : Str → Option Value} {base : Heap} {x qual : Str} {params : Arguments} {c : Stmt} {rest : List Stmt} {scope : Scope} {fa : Addr} {fd : FuncData} {N : List Str} {k n : Nat} {b : FS}
    (Fd : FunD K x qual params (c :: rest) scope [] [] fa fd) (S : FnScope N ["script"] scope) (hN : N.length = n + 2) (hb : (lawM n b).All isTrue1)
    (h : ∀ (cdv : Value) (A : Around) (outer : List Env) (s : Shared) (H : Hp) (E : XK), Room k (A.deeper (PyProof.Rows.envOfC qual scope s.heap.objs.size fa cdv)) →
      PS (cxOf CX0 P w K mg base N qual scope fa cdv A outer s H E).nox c (tAsg (tCall (spCup K) [] E0 (tCons (tVar 0) tNil)) (gName 1)) ∧ CSs (cxOf CX0 P w K mg base N qual scope fa cdv A outer s H E).nox rest b) :
    FnOk P w K mg base CX0 (k + 1) fa fd ["script"] (spLaw K) :=
  Fd.ok S (fun vs H Q E h => by obtain ⟨a, ns, rfl, _⟩ := h; rfl) fun cdv A outer s H vs Q E hr hsp =>
    ⟨tLaw K b, PSs.nox (pss_cons (h cdv A outer s H E hr).1 (h cdv A outer s H E hr).2), law_go hN hb hsp⟩
end WK
end

section
set_option Elab.async false
set_option linter.all false
set_option maxRecDepth 100000
set_option maxHeartbeats 4000000
/-! len(set(texts)). -/
namespace WK
open PySem L2
theorem once_snoc {α : Type} [DecidableEq α] (xs : List α) (k : α) : once (xs ++ [k]) = if k ∈ once xs then once xs else once xs ++ [k] := by
  unfold once
  rw [List.foldl_append]
  rfl
theorem once_le {α : Type} [DecidableEq α] (xs : List α) : (once xs).length ≤ xs.length := by
  suffices h : ∀ (xs l : List α), (xs.foldl (fun l k => if k ∈ l then l else l ++ [k]) l).length ≤ l.length + xs.length by have := h xs []; rwa [List.length_nil, Nat.zero_add] at this
  intro xs
  induction xs with
  | nil => intro l; simp
  | cons x r ih =>
    intro l
    rw [List.foldl_cons]
    refine Nat.le_trans (ih _) ?_
    split <;> simp <;> omega
section
variable {P : Program} {w : World} {A : Around} {E : Value → Shared → Prop} {s : Shared} {T : Type} [DecidableEq T] [BEq T] [LawfulBEq T] {knd : KeyKind P w T}
/-- one walk of set.update: what is met goes in -/
theorem keys_loop {I : Addr} {fp wr : List Addr} {G : Array GenState → Array GenState → Prop} {n : Nat} {Pv : Nat → Value → Prop} {St : Nat → Shared → Prop} {R : Result → Shared → Prop}
    (W : WalksS P w A.in1 I fp wr G n Pv St) (S : Addr) (hSf : S ∉ fp) (ks : List T) (hn : n = ks.length) (hb : ks.length + 1 < scanBound) (hval : ∀ i v, Pv i v → ∃ k, ks[i]? = some k ∧ knd.is k v = true ∧ v.scannable = true) :
    ∀ (m i : Nat) (s : Shared), n - i = m → i ≤ n → St i s → s.heap.SetOf knd S (fun k => decide (k ∈ once (ks.take i))) (once (ks.take i)).length →
      (∀ s', Moved (S :: wr) G s s' → s'.heap.SetOf knd S (fun k => decide (k ∈ once ks)) (once ks).length → R (.ok (.ret .none)) s') →
      codeAny (model P w) A (.builtin "set.update.loop" ⟨[.ref S, .ref I], []⟩) R s := by
  have hSw : S ∉ wr := fun h => hSf (W.sub _ h)
  have hsub : ∀ b ∈ wr, b ∈ S :: wr := fun b hb => List.mem_cons_of_mem _ hb
  intro m
  induction m with
  | zero =>
    intro i s hk hi hst hS hR
    obtain rfl : i = n := by omega
    refine codeAny_builtin PyProof.Rows.F.entry_set_update_loop ?_
    rw [Around.under_plainId PyProof.Rows.F.plain_set_update_loop _]
    show wpAny _ A.in1 (pyNext (.ref I) >>= _) _ _ s
    refine wpAny_bind (W.done s _ _ hst fun s' hm => ?_)
    show wpAny _ A.in1 (ret Value.none) _ _ s'
    rw [List.take_of_length_le (by omega)] at hS
    obtain ⟨o, es, ep, t, ho, r⟩ := hS
    exact wpAny_pure (hR s' (hm.mono hsub) ⟨o, es, ep, t, hm.heap S _ hSw ho, r⟩)
  | succ m ih =>
    intro i s hk hi hst hS hR
    have hlt : i < n := by omega
    refine codeAny_builtin PyProof.Rows.F.entry_set_update_loop ?_
    rw [Around.under_plainId PyProof.Rows.F.plain_set_update_loop _]
    show wpAny _ A.in1 (pyNext (.ref I) >>= _) _ _ s
    refine wpAny_bind (W.item i s _ _ hlt hst fun v s' hP hst' hm => ?_)
    obtain ⟨k, hk', hkv, hsc⟩ := hval i v hP
    have hS' : s'.heap.SetOf knd S (fun k => decide (k ∈ once (ks.take i))) (once (ks.take i)).length := by
      obtain ⟨o, es, ep, t, ho, r⟩ := hS
      exact ⟨o, es, ep, t, hm.heap S _ hSw ho, r⟩
    show wpAny _ A.in1 (holding [v] (setAdd S v) >>= _) _ _ s'
    refine wpAny_bind (wpAny_holding ?_)
    unfold setAdd
    refine wpAny_holding ?_
    refine wpAny_bind (knd.pyHash hkv ?_)
    have room : (once (ks.take i)).length + 1 < scanBound := by
      have := once_le (ks.take i)
      rw [List.length_take] at this
      omega
    refine wpAny_setAddHashed_of (s := { s' with toks := s'.toks + 1 }) hkv hsc hS' room fun h' hsb hS2 => ?_
    have e1 : ks.take (i + 1) = ks.take i ++ [k] := by rw [List.take_add_one, hk']; rfl
    have hS3 : h'.SetOf knd S (fun k => decide (k ∈ once (ks.take (i + 1)))) (once (ks.take (i + 1))).length := by
      rw [e1, once_snoc]
      by_cases q : k ∈ once (ks.take i)
      · rw [if_pos q]
        refine PyProof.Rows.SetOf_congr hS2 (fun j => ?_) (by rw [if_pos (decide_eq_true q)])
        by_cases e : j = k
        · subst e; simp [q]
        · simp [e]
      · rw [if_neg q]
        refine PyProof.Rows.SetOf_congr hS2 (fun j => ?_) (by rw [if_neg (by simp [q])]; simp)
        simp [List.mem_append]
    refine wpAny_pure ⟨plainId_quiet PyProof.Rows.F.plain_set_update_loop _, ih (i + 1) _ (by omega) hlt (W.frame _ s' _ _ hst' (Nat.le_succ _) fun b hb o e => ?_) hS3 fun s'' hm'' hS'' => ?_⟩
    · rw [hsb.2 b (fun h : b = S => hSf (by rw [← h]; exact hb))]; exact e
    · refine hR s'' (Moved.trans W.gtrans ((hm.mono hsub).then_heap (Nat.le_succ _) fun b o hb e => ?_) hm'') hS''
      rw [hsb.2 b (fun h : b = S => hb (by rw [h]; exact List.mem_cons_self))]; exact e
abbrev young2 (led : Bool) : Obj := { cls := .type "set", dict := none, data := .set #[] 0 (.fresh 0 0 led) }
def FilledK (knd : KeyKind P w T) (s : Shared) (ks : List T) (h' : Heap) : Prop :=
  h'.SetOf knd s.heap.objs.size (fun k => decide (k ∈ once ks)) (once ks).length ∧ ∀ b o, s.heap.get? b = some o → h'.get? b = some o
def ListOrTup (h : Heap) (l : Addr) (items : Array Value) : Prop := h.IsList l items ∨ h.IsTuple l items
theorem setK_init (led : Bool) {l : Addr} {items : Array Value} (ks : List T) (hh : A.handled = none) (hl : ListOrTup s.heap l items) (hz : items.size = ks.length) (hb : ks.length + 1 < scanBound)
    (hv : ∀ (i : Nat) (v : Value), items[i]? = some v → ∃ k, ks[i]? = some k ∧ knd.is k v = true ∧ v.scannable = true) {Q : Value → Shared → Prop}
    (h : ∀ (h' : Heap) (tk : Nat), FilledK knd s ks h' → Q .none { s with heap := h', toks := tk }) :
    codeAny (model P w) A (.call (.builtin "set.__init__") ⟨[.ref s.heap.objs.size, .ref l], []⟩) (wants Q E) { s with heap := s.heap.push (young2 led) } := by
  have hS : (s.heap.push (young2 led)).get? s.heap.objs.size = some (young2 led) := Heap.get?_push_size _ rfl
  have hT : Shared.TypeIs { s with heap := s.heap.push (young2 led) } (.ref s.heap.objs.size) "set" := ⟨_, hS, rfl⟩
  have zz : (s.heap.push (young2 led)).objs.size = s.heap.objs.size + 1 := Heap.size_push ..
  have fin : ∀ {St : Nat → Shared → Prop} {s1 : Shared} (lt : l < s.heap.objs.size) (W : WalksS P w A.in1.in1 (s.heap.push (young2 led)).objs.size [(s.heap.push (young2 led)).objs.size, l] [(s.heap.push (young2 led)).objs.size] (fun g g' => g' = g) items.size (fun i v => items[i]? = some v) St),
      St 0 s1 → s1.heap.get? s.heap.objs.size = some (young2 led) → s1.gens = s.gens → s1.drawn = s.drawn → s1.os = s.os → (∀ b o, s.heap.get? b = some o → s1.heap.get? b = some o) →
      codeAny (model P w) A.in1 (.builtin "set.update.loop" ⟨[.ref s.heap.objs.size, .ref (s.heap.push (young2 led)).objs.size], []⟩) (fun r s2 => r = .ok (.ret .none) ∧ ∃ h' tk, s2 = { s with heap := h', toks := tk } ∧ FilledK knd s ks h') s1 := by
    intro St s1 lt W st g1 g2 g3 g4 kp
    have n2 : s.heap.objs.size ∉ [(s.heap.push (young2 led)).objs.size, l] := by
      simp only [List.mem_cons, List.not_mem_nil, or_false, not_or]
      exact ⟨by rw [zz]; exact Nat.ne_of_lt (Nat.lt_succ_self _), Nat.ne_of_gt lt⟩
    refine keys_loop W s.heap.objs.size n2 ks hz hb hv (items.size - 0) 0 s1 (by omega) (Nat.zero_le _) st (PyProof.Rows.SetOf_congr ((PyProof.Rows.setObjOf_fresh (knd := knd) led).setOf g1 (by unfold scanBound; omega)) (fun k => by simp [once]) rfl) fun s' hm hS' => ?_
    obtain ⟨h', g', d', tk', os'⟩ := s'
    have e1 := hm.gens
    have e2 := hm.drawn
    have e3 := hm.os
    simp only at e1 e2 e3
    rw [g2] at e1
    rw [g3] at e2
    rw [g4] at e3
    subst e1 e2 e3
    refine ⟨rfl, h', tk', rfl, hS', fun b o e => hm.heap b o ?_ (kp b o e)⟩
    have := Heap.lt_size e
    simp only [List.mem_cons, List.not_mem_nil, or_false, not_or]
    exact ⟨Nat.ne_of_lt this, by rw [zz]; exact Nat.ne_of_lt (Nat.lt_succ_of_lt this)⟩
  rcases hl with hl | hl
  · obtain ⟨⟨oc, od, odt, os⟩, hol, hcl, nl, hdl⟩ := hl
    simp only at hcl hdl
    subst hcl hdl
    have up1 : (s.heap.push (young2 led)).get? l = some { cls := .type "list", dict := od, data := .seq items nl, slots := os } := Heap.get?_push_of_some _ hol
    have q1 := F.sub_list_set
    have q2 := F.sub_list_frozenset
    have q3 : (Value.type "list" == Value.type "dict") = false := by decide
    have up2 : (s.heap.push (young2 led)).IsList l items := ⟨_, up1, rfl, nl, rfl⟩
    have lt := Heap.lt_size hol
    have n1 : l ≠ (s.heap.push (young2 led)).objs.size := by rw [zz]; exact Nat.ne_of_lt (Nat.lt_succ_of_lt lt)
    refine codeAny_call_builtin F.called_set.init.plain F.entry_set_init (check_set_init_1 hT ?_)
    unfold Builtin.«set.__init__» noKeywords Builtin.Frozenset.updateFrom
    generalize hg : pyIter = it
    wp_walk
    subst hg
    refine wpAny_pyIter_list up2 (wpAny_bind (wpAny_runValue ?_))
    refine codeAny_mono (fin lt (Walks.list (by simp [hh]) _ l n1 items).toS ⟨⟨_, Heap.get?_push_size _ rfl, rfl, rfl⟩, up2.push _⟩ (Heap.get?_push_of_some _ hS) rfl rfl rfl fun b o e => Heap.get?_push_of_some _ (Heap.get?_push_of_some _ e)) fun r s2 hr => ?_
    obtain ⟨rfl, h', tk, rfl, f⟩ := hr
    show wpAny _ _ _ _ _ _
    refine wpAny_pure ?_
    show wpAny _ _ (ret Value.none) _ _ _
    exact wpAny_pure (h h' tk f)
  · obtain ⟨⟨oc, od, odt, os⟩, hol, hcl, nl, hdl⟩ := hl
    simp only at hcl hdl
    subst hcl hdl
    have up1 : (s.heap.push (young2 led)).get? l = some { cls := .type "tuple", dict := od, data := .seq items nl, slots := os } := Heap.get?_push_of_some _ hol
    have q1 := F.sub_tuple_set
    have q2 := F.sub_tuple_frozenset
    have q3 : (Value.type "tuple" == Value.type "dict") = false := by decide
    have up2 : (s.heap.push (young2 led)).IsTuple l items := ⟨_, up1, rfl, nl, rfl⟩
    have lt := Heap.lt_size hol
    have n1 : l ≠ (s.heap.push (young2 led)).objs.size := by rw [zz]; exact Nat.ne_of_lt (Nat.lt_succ_of_lt lt)
    refine codeAny_call_builtin F.called_set.init.plain F.entry_set_init (check_set_init_1 hT ?_)
    unfold Builtin.«set.__init__» noKeywords Builtin.Frozenset.updateFrom
    generalize hg : pyIter = it
    wp_walk
    subst hg
    refine wpAny_pyIter_tuple up2 (wpAny_bind (wpAny_runValue ?_))
    refine codeAny_mono (fin lt (Walks.tuple (by simp [hh]) _ l n1 items).toS ⟨⟨_, Heap.get?_push_size _ rfl, rfl, rfl⟩, up2.push _⟩ (Heap.get?_push_of_some _ hS) rfl rfl rfl fun b o e => Heap.get?_push_of_some _ (Heap.get?_push_of_some _ e)) fun r s2 hr => ?_
    obtain ⟨rfl, h', tk, rfl, f⟩ := hr
    show wpAny _ _ _ _ _ _
    refine wpAny_pure ?_
    show wpAny _ _ (ret Value.none) _ _ _
    exact wpAny_pure (h h' tk f)
theorem setK_of {l : Addr} {items : Array Value} (ks : List T) (hh : A.handled = none) (hl : ListOrTup s.heap l items) (hz : items.size = ks.length) (hb : ks.length + 1 < scanBound)
    (hv : ∀ (i : Nat) (v : Value), items[i]? = some v → ∃ k, ks[i]? = some k ∧ knd.is k v = true ∧ v.scannable = true) {Q : Value → Shared → Prop}
    (h : ∀ (h' : Heap) (tk : Nat), FilledK knd s ks h' → Q (.ref s.heap.objs.size) { s with heap := h', toks := tk }) :
    wpAny (model P w) A (call (.type "set") [.ref l]) Q E s := by
  obtain ⟨c, tl, hmro⟩ := F.called_set.mro
  have hmade := F.called_set.made
  have hsub := F.called_set.sub
  have h1 := F.called_set.notType
  have h2 := F.called_set.canCreate
  have hct := F.typeCall_set_1 (.ref l)
  refine wpAny_call (codeAny_of_tree ?_)
  show wpAny _ _ (callAny (.type "set") _) _ _ _
  refine wpAny_pure ⟨Code.quiet_builtin _ (by decide +kernel), codeAny_builtin F.entry_type_call ?_⟩
  rw [Around.under_plain (weight_type_call_type "set" [.ref l] []) rfl]
  repeat (any_goals (first | assumption | wp_step))
  refine codeAny_mono (code_set_new_1 (.ref l) (E := E) (Q₁ := fun x s1 => ∃ led : Bool, x = .ref s.heap.objs.size ∧ s1 = { s with heap := s.heap.push (young2 led) }) fun led => ⟨led, rfl, rfl⟩) fun r s1 hr => ?_
  match r, hr with
  | .error e, hr => exact hr
  | .ok (.ret x), ⟨led, e1, e2⟩ =>
    subst e1 e2
    have hS : (s.heap.push (young2 led)).get? s.heap.objs.size = some (young2 led) := Heap.get?_push_size _ rfl
    have hT : Shared.TypeIs { s with heap := s.heap.push (young2 led) } (.ref s.heap.objs.size) "set" := ⟨_, hS, rfl⟩
    have hli := F.called_set.init.lookup
    have hbi := F.called_set.init.bind (.ref s.heap.objs.size)
    repeat (any_goals (first | assumption | wp_step))
    refine codeAny_mono (setK_init (P := P) (A := A.in1) (E := E) (knd := knd) led (Q := fun x s2 => x = .none ∧ ∃ h' tk, s2 = { s with heap := h', toks := tk } ∧ FilledK knd s ks h') ks (by simp [hh]) hl hz hb hv fun h' tk f => ⟨rfl, h', tk, rfl, f⟩) fun r2 s2 hr2 => ?_
    match r2, hr2 with
    | .error e, hr2 => exact hr2
    | .ok (.ret y), ⟨e1, h', tk, e2, f⟩ =>
      subst e1 e2
      repeat (any_goals (first | assumption | wp_step))
      exact h _ _ f
end
end WK
end

section
set_option Elab.async false
set_option linter.all false
set_option maxRecDepth 100000
/-! len(set(texts)), n += e. -/
namespace WK
open PySem L2 PyProof.Rows
theorem once_map {α β : Type} [DecidableEq α] [DecidableEq β] (g : α → β) (inj : ∀ a b, g a = g b → a = b) (xs : List α) : once (xs.map g) = (once xs).map g := by
  suffices h : ∀ (xs l : List α), (xs.map g).foldl (fun l k => if k ∈ l then l else l ++ [k]) (l.map g) = (xs.foldl (fun l k => if k ∈ l then l else l ++ [k]) l).map g from h xs []
  intro xs
  induction xs with
  | nil => intro l; rfl
  | cons x r ih =>
    intro l
    rw [List.map_cons, List.foldl_cons, List.foldl_cons]
    by_cases q : x ∈ l
    · rw [if_pos q, if_pos (List.mem_map.mpr ⟨x, q, rfl⟩)]
      exact ih l
    · have q2 : ¬ g x ∈ l.map g := fun z => by
        obtain ⟨y, hy, e⟩ := List.mem_map.mp z
        exact q (inj _ _ e ▸ hy)
      rw [if_neg q, if_neg q2, ← ih (l ++ [x]), List.map_append]
      rfl
theorem ss_inj (a b : List Nat) (h : SS a = SS b) : a = b := by
  have := congrArg (fun s : Str => s.cps.toList) h
  exact this
section
variable {X : Cx} {a e : Expr} {f : FE} {p p2 pos q : Pos} {i : Nat} {x : Str}
def rSetS (K : PySem.W.Frag) : V → Hp → VK → Prop := fun x H1 Q => ∃ l, ∃ xs : List Str, x = V.ref l ∧ (SqL K H1 l (xs.map V.str) ∨ SqT K H1 l (xs.map V.str)) ∧ xs.length ≤ 4000 ∧ Q (.int (once xs).length) H1
theorem pe_lenSetS {ta : TE} (hc : X.calm = true) (hg : Gl X "len") (hm : X.mg "len" = none) (hg2 : Gl X "set") (hm2 : X.mg "set" = none) (ha : PE X a ta)
    (na : starEach [a] X.env = (false, eval a X.env) :: starEach [] X.env := by rfl) : PE X (.Call (.Name "len" p) [.Call (.Name "set" p2) [a] [] q] [] pos) (fun σ H Q => ta σ H fun x H1 => rSetS X.K x H1 Q) := by
  refine ⟨fun pins s σ H Q I h => Call_ (ld_blt I hg hm boot_len (callWith_builtin1 (args_cons ?_ rfl) rfl rfl))⟩
  refine Call_ (ld_blt I hg2 hm2 boot_set (callWith_type1 (args_cons (thn (ha.run pins s σ H _ I h) fun v s1 ⟨x, H1, I1, r1, q1⟩ => args_nil ?_) na) na rfl))
  obtain ⟨l, xs, rfl, hq, hz, q1⟩ := q1
  cases r1
  have go : ∀ its : List Value, Vals (xs.map V.str) its → ListOrTup s1.heap l its.toArray → wpAny (model X.prog X.w) X.A (call (.type "set") [.ref l]) (fun v s2 => wpAny (model X.prog X.w) X.A (spliced (backTo pos (starEach [] X.env))) (fun vs s3 => wpAny (model X.prog X.w) X.A (call (.builtin "len") (v :: vs)) (EP X pins σ Q) X.xe s3) X.xe s2) X.xe s1 := fun its r hl => by
    have hlen : its.length = xs.length := by rw [← r.length, List.length_map]
    have hat := fun i v (h : its[i]? = some v) => _root_.SS.strs_at (strsAre_of r) i v h
    refine setK_of (knd := strKind X.prog X.w) xs (I1.ok.hd hc) hl (by rw [List.size_toArray]; exact hlen) (by unfold scanBound; omega) (fun i v hv => ?_) fun h' tk ⟨hS, k⟩ => args_nil ?_
    · have hv' : its[i]? = some v := by simpa using hv
      have hi : i < xs.length := by
        have := (List.getElem?_eq_some_iff.mp hv').1
        omega
      obtain ⟨t, rfl⟩ := hat i v hv'
      refine ⟨xs[i], List.getElem?_eq_getElem hi, ?_, rfl⟩
      rw [List.getD_eq_getElem?_getD, List.getElem?_eq_getElem hi]
      exact strKind_is _ _ _ _
    · obtain ⟨o, es, ep, t, ho, hex, hd, _, _, _, hf, hn⟩ := hS
      have I2 : Inv X pins σ H1 { s1 with heap := h', toks := tk } := I1.kept k
      have ho2 := once_le xs
      refine call_len_set ho hex hd hf (by rw [hn]; omega) ⟨.int (once xs).length, H1, I2.tok _, ⟨_, by rw [hn]⟩, q1⟩
  rcases hq with hq | hq
  · obtain ⟨its, r, pl, _⟩ := I1.list hq
    exact go its r (.inl pl.isList)
  · obtain ⟨its, r, pl, _⟩ := I1.tuple hq
    exact go its r (.inr pl)
theorem c_lenSet (hk : X.calm = true) (hg : Gl X "len") (hm : X.mg "len" = none) (hg2 : Gl X "set") (hm2 : X.mg "set" = none) (ha : CB X a f)
    (na : starEach [a] X.env = (false, eval a X.env) :: starEach [] X.env := by rfl) : CF X (.Call (.Name "len" p) [.Call (.Name "set" p2) [a] [] q] [] pos) (fUn gLenSet f) :=
  pe_mono (pe_lenSetS hk hg hm hg2 hm2 ha na) fun σ H Q ⟨B, F, C, ρ, E, q⟩ => by
    refine ⟨B, F, C, ρ, E, M.All.mono (fun d q v H1 F1 C1 s1 r1 => ?_) (M.all_bind.mp q)⟩
    have go : ∀ (p : Addr) (ss : List (List Nat)), (SqL X.K H1 p ((ss.map SS).map V.str) ∨ SqT X.K H1 p ((ss.map SS).map V.str)) → (if ss.length ≤ 4000 then M.ret (D.int (once ss).length) else .bad).All (fun d => ∀ v H' F' C', Step H F C H' F' C' → Rp X.K F' C' v d → Q v H') → rSetS X.K (.ref p) H1 Q := fun p ss hp q => by
      obtain ⟨hz, q⟩ := all_if q
      refine ⟨p, ss.map SS, rfl, hp, by rw [List.length_map]; exact hz, ?_⟩
      rw [once_map SS ss_inj, List.length_map]
      exact q _ H1 F1 C1 s1 (.int _)
    cases d with
    | lst xs =>
      obtain ⟨p, vs, rfl, hp, r⟩ := r1.list s1.hf
      obtain ⟨ss, e, q⟩ := all_mopt q
      cases r.strs e
      exact go p ss (.inl (.of hp)) q
    | tup xs =>
      obtain ⟨p, vs, rfl, _, hp, r⟩ := r1.tup s1.hf
      obtain ⟨ss, e, q⟩ := all_mopt q
      cases r.strs e
      exact go p ss (.inr hp) q
    | _ => exact q.elim
/-- n += e, n -= e, ints -/
theorem aug_go {gg : D → D → M D} {g : Int → Int → Int} (hg : ∀ a b (P : D → Prop), (gg a b).All P → ∃ i j, a = .int i ∧ b = .int j ∧ P (.int (g i j))) {D0 : Ends} {σ : L2.St} {H : Hp} (h : tX X.K (sAsg (fOp gg (fVar i) f) (gtName i)) D0 σ H) : tAug i (tG X.K RF f) (ipI g) D0 σ H := by
  obtain ⟨B, F, C, ρ, E, q⟩ := h
  have q := M.all_bind.mp (M.all_bind.mp q)
  unfold fVar at q
  cases e : ρ[i]? with
  | none => rw [e] at q; exact q.elim
  | some s =>
    rw [e] at q
    cases s with
    | fz d =>
      obtain ⟨v, e1, r⟩ := E.slot i _ e
      refine ⟨v, e1, B, F, C, ρ, E, (M.all_bind.mp q).mono fun d2 q y H1 F1 C1 s1 r2 => ?_⟩
      obtain ⟨a, b, e2, e3, w⟩ := hg _ _ _ q
      subst e2 e3
      cases r
      cases r2
      refine ⟨a, b, rfl, rfl, ?_⟩
      unfold gtName at w
      have hi : i < ρ.length := (List.getElem?_eq_some_iff.mp e).1
      rw [if_pos hi] at w
      exact w _ H1 F1 C1 ((E.step s1).set (.int _)) (E.grow s1)
    | _ => exact q.elim
theorem s_aug {op : Operator} {gg : D → D → M D} {g : Int → Int → Int} (hg : ∀ a b (P : D → Prop), (gg a b).All P → ∃ i j, a = .int i ∧ b = .int j ∧ P (.int (g i j))) (hN : X.N.Nodup) (hi : X.N[i]? = some x) (hx : Loc X.env.scope x) (ho : PIp X op (ipI g)) (he : CF X e f) (hf : X.fn x = true ∨ X.env.scope.names.lookup x = some .local := by first | exact .inl rfl | exact .inr rfl | assumption) :
    CS X (.AugAssign (.Name x p) op e pos) (sAsg (fOp gg (fVar i) f) (gtName i)) := ps_mono (ps_aug hN hi hx he ho hf) fun _ _ _ h => aug_go hg h
theorem i_add (a b : D) (P : D → Prop) (h : (gAddI a b).All P) : ∃ i j, a = .int i ∧ b = .int j ∧ P (.int (i + j)) := by
  cases a with
  | int i =>
    cases b with
    | int j => exact ⟨i, j, rfl, rfl, h⟩
    | _ => exact h.elim
  | _ => exact h.elim
theorem i_sub (a b : D) (P : D → Prop) (h : (gSub a b).All P) : ∃ i j, a = .int i ∧ b = .int j ∧ P (.int (i - j)) := by
  cases a with
  | int i =>
    cases b with
    | int j => exact ⟨i, j, rfl, rfl, h⟩
    | _ => exact h.elim
  | _ => exact h.elim
end
end WK
end

section
set_option Elab.async false
set_option linter.all false
namespace WK
/-! the readings as rewriting rules -/
@[simp] theorem bind_ret {α β : Type} (a : α) (f : α → M β) : (M.ret a).bind f = f a := rfl
@[simp] theorem bind_bad {α β : Type} (f : α → M β) : (M.bad : M α).bind f = .bad := rfl
@[simp] theorem bind_draw {α β : Type} (n : Nat) (k : Nat → M α) (f : α → M β) : (M.draw n k).bind f = .draw n fun i => (k i).bind f := rfl
@[simp] theorem all_ret {α : Type} (P : α → Prop) (a : α) : (M.ret a).All P = P a := rfl
@[simp] theorem all_bad {α : Type} (P : α → Prop) : (M.bad : M α).All P = False := rfl
@[simp] theorem all_draw {α : Type} (P : α → Prop) (n : Nat) (k : Nat → M α) : (M.draw n k).All P = (0 < n ∧ ∀ i, i < n → (k i).All P) := rfl
@[simp] theorem e_fC (d : D) (ρ : Ev) : fC d ρ = .ret d := rfl
@[simp] theorem e_fUn (g : D → M D) (f : FE) (ρ : Ev) : fUn g f ρ = (f ρ).bind g := rfl
@[simp] theorem e_fOp (g : D → D → M D) (f1 f2 : FE) (ρ : Ev) : fOp g f1 f2 ρ = (f1 ρ).bind fun a => (f2 ρ).bind fun b => g a b := rfl
@[simp] theorem e_onT {α : Type} (x y : M α) : onB (.bl true) x y = x := rfl
@[simp] theorem e_onF {α : Type} (x y : M α) : onB (.bl false) x y = y := rfl
@[simp] theorem e_fIf (c f g : FE) (ρ : Ev) : fIf c f g ρ = (c ρ).bind fun b => onB b (f ρ) (g ρ) := rfl
@[simp] theorem e_fAnd (f g : FE) (ρ : Ev) : fAnd f g ρ = (f ρ).bind fun b => onB b (g ρ) (.ret (.bl false)) := rfl
@[simp] theorem e_fOr (f g : FE) (ρ : Ev) : fOr f g ρ = (f ρ).bind fun b => onB b (.ret (.bl true)) (g ρ) := rfl
theorem onb_ite {α : Type} (b : Bool) (x y : M α) : onB (.bl b) x y = if b = true then x else y := by cases b <;> rfl
@[simp] theorem onb_dec {α : Type} (p : Prop) [Decidable p] (x y : M α) : onB (.bl (decide p)) x y = if p then x else y := by
  rw [onb_ite]
  by_cases h : p <;> simp [h]
@[simp] theorem onb_not {α : Type} (b : Bool) (x y : M α) : onB (.bl (!b)) x y = onB (.bl b) y x := by cases b <;> rfl
@[simp] theorem onb_vals (b c d : Bool) : onB (.bl b) (.ret (.bl c)) (.ret (.bl d)) = (.ret (.bl (if b then c else d)) : M D) := by cases b <;> rfl
@[simp] theorem e_gNot (b : Bool) : gNot (.bl b) = .ret (.bl (!b)) := by cases b <;> rfl
@[simp] theorem e_fChain (g g' : D → D → M D) (f1 f2 f3 : FE) (ρ : Ev) : fChain g g' f1 f2 f3 ρ = (f1 ρ).bind fun a => (f2 ρ).bind fun b => (g a b).bind fun c => onB c ((f3 ρ).bind fun e => g' b e) (.ret (.bl false)) := rfl
@[simp] theorem e_fNil (ρ : Ev) : fNil ρ = .ret [] := rfl
@[simp] theorem e_fCons (f : FE) (g : FL) (ρ : Ev) : fCons f g ρ = (f ρ).bind fun x => (g ρ).bind fun xs => .ret (x :: xs) := rfl
@[simp] theorem e_fArgs (g : List D → M D) (fs : FL) (ρ : Ev) : fArgs g fs ρ = (fs ρ).bind g := rfl
@[simp] theorem v0 (d : D) (r : Ev) : fVar 0 (.fz d :: r) = .ret d := rfl
@[simp] theorem vs (i : Nat) (s : Sl) (r : Ev) : fVar (i + 1) (s :: r) = fVar i r := rfl
@[simp] theorem b0 (d : D) (r : Ev) : fBor 0 (.fz d :: r) = .ret d := rfl
@[simp] theorem b0w (d : List D) (r : Ev) : fBor 0 (.ow d :: r) = .ret (.lst d) := rfl
@[simp] theorem bs (i : Nat) (s : Sl) (r : Ev) : fBor (i + 1) (s :: r) = fBor i r := rfl
@[simp] theorem e_sNil (ρ : Ev) : sNil ρ = .ret (.nx ρ) := rfl
/-- what follows a statement -/
def andThen (t : FS) : Fl → M Fl
  | .nx ρ' => t ρ'
  | fl => .ret fl
@[simp] theorem then_nx (t : FS) (ρ : Ev) : andThen t (.nx ρ) = t ρ := rfl
@[simp] theorem then_rt (t : FS) (d : D) : andThen t (.rt d) = .ret (.rt d) := rfl
@[simp] theorem e_sSeq (s t : FS) (ρ : Ev) : sSeq s t ρ = (s ρ).bind (andThen t) := by
  refine congrArg (M.bind (s ρ)) (funext fun fl => ?_)
  cases fl <;> rfl
@[simp] theorem e_sRet (f : FE) (ρ : Ev) : sRet f ρ = (f ρ).bind fun x => .ret (.rt x) := rfl
@[simp] theorem e_sRetN (ρ : Ev) : sRetN ρ = .ret (.rt .non) := rfl
@[simp] theorem e_sExpr (f : FE) (ρ : Ev) : sExpr f ρ = (f ρ).bind fun _ => .ret (.nx ρ) := rfl
@[simp] theorem e_sNever (ρ : Ev) : sNever ρ = .bad := rfl
@[simp] theorem e_sIf (c : FE) (s t : FS) (ρ : Ev) : sIf c s t ρ = (c ρ).bind fun b => onB b (s ρ) (t ρ) := rfl
def finish : Fl → M D
  | .rt d => .ret d
  | .nx _ => .ret .non
  | _ => .bad
@[simp] theorem fin_rt (d : D) : finish (.rt d) = .ret d := rfl
@[simp] theorem fin_nx (ρ : Ev) : finish (.nx ρ) = .ret .non := rfl
theorem run_eq {n k : Nat} {b : FS} {args : List D} (h : args.length = k) : run n k b args = (b (args.map .fz ++ List.replicate (n - k) .no)).bind finish := by
  unfold run
  rw [if_pos h]
  refine congrArg (M.bind _) (funext fun fl => ?_)
  cases fl <;> rfl
/-- a name stored -/
@[simp] theorem e_sAsg (f : FE) (i : Nat) (ρ : Ev) : sAsg f (gtName i) ρ = (f ρ).bind fun x => if i < ρ.length then .ret (.nx (ρ.set i (.fz x))) else .bad := by
  refine congrArg (M.bind (f ρ)) (funext fun x => ?_)
  unfold gtName
  by_cases h : i < ρ.length <;> simp [h]
theorem ret_fin (m : M D) : (m.bind fun x => M.ret (Fl.rt x)).bind finish = m := by
  rw [M.bind_assoc]
  exact M.bind_ret
end WK
end

section
set_option Elab.async false
set_option linter.all false
namespace WK
/-! ### equal data -/
mutual
def D.beq : D → D → Bool
  | .non, .non => true
  | .bl a, .bl b => a == b
  | .int i, .int j => i == j
  | .str x, .str y => x == y
  | .lst xs, .lst ys => D.beqs xs ys
  | .tup xs, .tup ys => D.beqs xs ys
  | _, _ => false
def D.beqs : List D → List D → Bool
  | [], [] => true
  | x :: xs, y :: ys => D.beq x y && D.beqs xs ys
  | _, _ => false
end
mutual
theorem D.beq_eq : ∀ {a b : D}, D.beq a b = true → a = b
  | .non, b, h => by cases b <;> first | rfl | cases h
  | .bl a, b, h => by
    cases b with
    | bl b => rw [eq_of_beq (show (a == b) = true from h)]
    | _ => cases h
  | .int a, b, h => by
    cases b with
    | int b => rw [eq_of_beq (show (a == b) = true from h)]
    | _ => cases h
  | .str a, b, h => by
    cases b with
    | str b => rw [eq_of_beq (show (a == b) = true from h)]
    | _ => cases h
  | .lst a, b, h => by
    cases b with
    | lst b => rw [D.beqs_eq (show D.beqs a b = true from h)]
    | _ => cases h
  | .tup a, b, h => by
    cases b with
    | tup b => rw [D.beqs_eq (show D.beqs a b = true from h)]
    | _ => cases h
  | .cup, b, h => by cases b <;> cases h
  | .scr, b, h => by cases b <;> cases h
theorem D.beqs_eq : ∀ {a b : List D}, D.beqs a b = true → a = b
  | [], [], _ => rfl
  | [], _ :: _, h => by cases h
  | _ :: _, [], h => by cases h
  | x :: xs, y :: ys, h => by
    have h : (D.beq x y && D.beqs xs ys) = true := h
    rw [Bool.and_eq_true] at h
    rw [D.beq_eq h.1, D.beqs_eq h.2]
end
def M.gives (m : M D) (d : D) : Bool := match m with
  | .ret e => D.beq e d
  | _ => false
/-- by evaluation -/
theorem M.by_eval {m : M D} {d : D} (h : m.gives d = true) : m = .ret d := by
  cases m with
  | ret e => rw [D.beq_eq (show D.beq e d = true from h)]
  | _ => cases h
/-! ### what is walked -/
@[simp] theorem e_iSeq (f : FE) (ρ : Ev) : iSeq f ρ = (f ρ).bind wSeq := rfl
@[simp] theorem w_lst (xs : List D) : wSeq (.lst xs) = .ret xs := rfl
@[simp] theorem w_tup (xs : List D) : wSeq (.tup xs) = .ret xs := rfl
theorem w_str {s : List Nat} (h : s.length ≤ sizeMax) : wSeq (.str s) = .ret (s.map fun c => .str [c]) := if_pos h
def rng1 (j : Int) : M (List D) := if j.natAbs ≤ 4000000 then .ret (rngL 0 j.toNat) else .bad
def rng2 (i j : Int) : M (List D) := if i.natAbs ≤ 4000000 ∧ j.natAbs ≤ 4000000 then .ret (rngL i (j - i).toNat) else .bad
def asRng1 : D → M (List D)
  | .int j => rng1 j
  | _ => .bad
@[simp] theorem asRng1_int (j : Int) : asRng1 (.int j) = rng1 j := rfl
@[simp] theorem e_iRange1 (f : FE) (ρ : Ev) : iRange1 f ρ = (f ρ).bind asRng1 := by
  refine congrArg (M.bind (f ρ)) (funext fun d => ?_)
  cases d <;> rfl
def asRng2 : D → D → M (List D)
  | .int i, .int j => rng2 i j
  | _, _ => .bad
@[simp] theorem asRng2_int (i j : Int) : asRng2 (.int i) (.int j) = rng2 i j := rfl
@[simp] theorem e_iRange2 (f g : FE) (ρ : Ev) : iRange2 f g ρ = (f ρ).bind fun d => (g ρ).bind fun e => asRng2 d e := by
  refine congrArg (M.bind (f ρ)) (funext fun d => congrArg (M.bind (g ρ)) (funext fun e => ?_))
  cases d <;> cases e <;> rfl
theorem rng1_nat {n : Nat} (h : n ≤ 4000000) : rng1 (n : Int) = .ret ((List.range n).map fun (i : Nat) => .int (i : Int)) := by
  unfold rng1 rngL
  have e : sizeMax = 16000000 := rfl
  rw [if_pos (by omega), Int.toNat_natCast]
  congr 1
  exact List.map_congr_left fun i _ => by rw [Int.zero_add]
/-! ### loops -/
/-- one turn -/
def turn (g : FG) (b : FS) (x : D) (ρ : Ev) : M Fl := match g x ρ with
  | some ρ1 => b ρ1
  | none => .bad
/-- how a loop goes on -/
def goOn (g : FG) (b : FS) (xs : List D) : Fl → M Fl
  | .nx ρ2 => loop g b xs ρ2
  | .ct ρ2 => loop g b xs ρ2
  | .bk ρ2 => .ret (.nx ρ2)
  | .rt d => .ret (.rt d)
@[simp] theorem loop_nil (g : FG) (b : FS) (ρ : Ev) : loop g b [] ρ = .ret (.nx ρ) := rfl
theorem loop_cons (g : FG) (b : FS) (x : D) (xs : List D) (ρ : Ev) : loop g b (x :: xs) ρ = (turn g b x ρ).bind (goOn g b xs) := by
  unfold loop turn
  cases g x ρ with
  | none => rfl
  | some ρ1 =>
    refine congrArg (M.bind (b ρ1)) (funext fun fl => ?_)
    cases fl <;> rfl
/-- a loop that goes to its end: st i the names ahead of turn i -/
theorem loop_run {g : FG} {b : FS} {α : Type} {e : α → D} (st : List α → Ev → Prop) : ∀ (xs ys : List α) (ρ : Ev), st ys ρ → (∀ ys x ρ, st ys ρ → ∃ ρ', turn g b (e x) ρ = .ret (.nx ρ') ∧ st (ys ++ [x]) ρ') →
    ∃ ρ', loop g b (xs.map e) ρ = .ret (.nx ρ') ∧ st (ys ++ xs) ρ'
  | [], ys, ρ, h, _ => ⟨ρ, rfl, by rw [List.append_nil]; exact h⟩
  | x :: xs, ys, ρ, h, hs => by
    obtain ⟨ρ1, e1, h1⟩ := hs ys x ρ h
    obtain ⟨ρ2, e2, h2⟩ := loop_run st xs (ys ++ [x]) ρ1 h1 hs
    refine ⟨ρ2, ?_, by rw [List.append_assoc] at h2; exact h2⟩
    rw [List.map_cons, loop_cons, e1]
    exact e2
/-- whatever is drawn in it; the turns may end it by a return -/
theorem loop_all {g : FG} {b : FS} {Q : Fl → Prop} (st : List D → Ev → Prop) : ∀ (xs ys : List D) (ρ : Ev), st ys ρ → (∀ ys x ρ, st ys ρ → x ∈ xs → (turn g b x ρ).All fun fl => (∃ ρ', fl = .nx ρ' ∧ st (ys ++ [x]) ρ') ∨ ∃ d, fl = .rt d ∧ Q (.rt d)) → (∀ ρ, st (ys ++ xs) ρ → Q (.nx ρ)) → (loop g b xs ρ).All Q
  | [], ys, ρ, h, _, hd => hd ρ (by rw [List.append_nil]; exact h)
  | x :: xs, ys, ρ, h, hs, hd => by
    rw [loop_cons]
    refine M.All.bind (hs ys x ρ h List.mem_cons_self) fun fl q => ?_
    rcases q with ⟨ρ', rfl, q⟩ | ⟨d, rfl, q⟩
    · exact loop_all st xs (ys ++ [x]) ρ' q (fun ys x ρ h m => hs ys x ρ h (List.mem_cons_of_mem _ m)) fun ρ z => hd ρ (by rw [List.append_assoc] at z; exact z)
    · exact q
@[simp] theorem e_sFor (it : FL) (g : FG) (b : FS) (ρ : Ev) : sFor it g b ρ = (it ρ).bind fun xs => loop g b xs ρ := rfl
/-! ### comprehensions -/
theorem mapM_eq {α β : Type} {f : α → M β} {g : α → β} {xs : List α} (h : ∀ x, x ∈ xs → f x = .ret (g x)) : mapM f xs = .ret (xs.map g) := mapM_ret h
theorem flat_filter {α β : Type} (p : α → Bool) (g : α → β) : ∀ xs : List α, (xs.map fun x => if p x = true then [g x] else []).flatten = (xs.filter p).map g
  | [] => rfl
  | x :: xs => by
    rw [List.map_cons, List.flatten_cons, flat_filter p g xs]
    by_cases h : p x = true <;> simp [h]
/-- what one item gives -/
def lcOne (tg : FG) (test elt : FE) (ρ0 : Ev) (x : D) : M (List D) := match tg x ρ0 with
  | some ρ2 => (test ρ2).bind fun b => onB b ((elt ρ2).bind fun d => .ret [d]) (.ret [])
  | none => .bad
def lcAll (yss : List (List D)) : M D := .ret (.lst yss.flatten)
theorem e_fLc {it : FL} {tg : FG} {test elt : FE} {vs : List Nat} {ρ : Ev} {xs : List D} (hi : it ρ = .ret xs) (hz : xs.length < sizeMax) : fLc it tg test elt vs ρ = (mapM (lcOne tg test elt (wipe ρ vs)) xs).bind lcAll := by
  unfold fLc
  rw [hi]
  exact if_pos hz
theorem lc_eq {it : FL} {tg : FG} {test elt : FE} {vs : List Nat} {ρ : Ev} {α : Type} {e : α → D} {ys : List α} (hi : it ρ = .ret (ys.map e)) (hz : ys.length < sizeMax) (p : α → Bool) (g : α → D)
    (h : ∀ y, y ∈ ys → ∃ ρ2, tg (e y) (wipe ρ vs) = some ρ2 ∧ test ρ2 = .ret (.bl (p y)) ∧ (p y = true → elt ρ2 = .ret (g y))) : fLc it tg test elt vs ρ = .ret (.lst ((ys.filter p).map g)) := by
  rw [e_fLc hi (by rw [List.length_map]; exact hz)]
  have hm : mapM (lcOne tg test elt (wipe ρ vs)) (ys.map e) = .ret (ys.map fun y => if p y = true then [g y] else []) := by
    clear hi hz
    induction ys with
    | nil => rfl
    | cons y ys ih =>
      obtain ⟨ρ2, e1, e2, e3⟩ := h y List.mem_cons_self
      have ih := ih fun y hy => h y (List.mem_cons_of_mem _ hy)
      have h1 : lcOne tg test elt (wipe ρ vs) (e y) = .ret (if p y = true then [g y] else []) := by
        unfold lcOne
        rw [e1]
        show (test ρ2).bind _ = _
        rw [e2]
        cases hp : p y with
        | true =>
          show (elt ρ2).bind _ = _
          rw [e3 hp]
          rfl
        | false => rfl
      rw [List.map_cons]
      unfold mapM
      rw [h1, ih]
      rfl
  rw [hm]
  show M.ret (D.lst _) = _
  rw [flat_filter]
/-- .. without a test -/
theorem lc_map {it : FL} {tg : FG} {elt : FE} {vs : List Nat} {ρ : Ev} {α : Type} {e : α → D} {ys : List α} (hi : it ρ = .ret (ys.map e)) (hz : ys.length < sizeMax) (g : α → D)
    (h : ∀ y, y ∈ ys → ∃ ρ2, tg (e y) (wipe ρ vs) = some ρ2 ∧ elt ρ2 = .ret (g y)) : fLc it tg (fC (.bl true)) elt vs ρ = .ret (.lst (ys.map g)) := by
  have := lc_eq (test := fC (.bl true)) hi hz (fun _ => true) g fun y hy => by
    obtain ⟨ρ2, e1, e2⟩ := h y hy
    exact ⟨ρ2, e1, rfl, fun _ => e2⟩
  rw [this, List.filter_eq_self.mpr fun _ _ => rfl]
/-- whatever is drawn in it -/
theorem mapM_all {α β : Type} {f : α → M β} {P : α → β → Prop} : ∀ {xs : List α}, (∀ x, x ∈ xs → (f x).All (P x)) → (mapM f xs).All fun ys => ys.length = xs.length ∧ ∀ (i : Nat) (x : α) (y : β), xs[i]? = some x → ys[i]? = some y → P x y
  | [], _ => ⟨rfl, fun i x y h => by simp at h⟩
  | x :: xs, h => by
    refine M.All.bind (h x List.mem_cons_self) fun y q => M.All.bind (mapM_all fun x hx => h x (List.mem_cons_of_mem _ hx)) fun ys ⟨l, r⟩ => ?_
    refine ⟨by simp [l], fun i a b h1 h2 => ?_⟩
    cases i with
    | zero => simp at h1 h2; subst h1 h2; exact q
    | succ i => exact r i a b (by simpa using h1) (by simpa using h2)
/-! ### targets, names forgotten -/
@[simp] theorem e_gtName (i : Nat) (x : D) (ρ : Ev) : gtName i x ρ = if i < ρ.length then some (ρ.set i (.fz x)) else none := rfl
@[simp] theorem wipe_nil (ρ : Ev) : wipe ρ [] = ρ := rfl
@[simp] theorem wipe_cons (ρ : Ev) (i : Nat) (vs : List Nat) : wipe ρ (i :: vs) = (wipe ρ vs).set i .no := rfl
@[simp] theorem e_gtTup (gs : List FG) (xs : List D) (ρ : Ev) : gtTup gs (.tup xs) ρ = gtSeq gs xs ρ := rfl
@[simp] theorem e_gtTupL (gs : List FG) (xs : List D) (ρ : Ev) : gtTup gs (.lst xs) ρ = gtSeq gs xs ρ := rfl
@[simp] theorem e_gtSeq0 (ρ : Ev) : gtSeq [] [] ρ = some ρ := rfl
@[simp] theorem e_gtSeq (g : FG) (gs : List FG) (x : D) (xs : List D) (ρ : Ev) : gtSeq (g :: gs) (x :: xs) ρ = (g x ρ).bind fun ρ' => gtSeq gs xs ρ' := by
  show (match g x ρ with
    | some ρ' => gtSeq gs xs ρ'
    | none => none) = _
  cases g x ρ <;> rfl
@[simp] theorem e_sOwn (i : Nat) (f : FE) (ρ : Ev) : sOwn i f ρ = (f ρ).bind fun x => match x with
  | .lst xs => if i < ρ.length then .ret (.nx (ρ.set i (.ow xs))) else .bad
  | _ => .bad := rfl
@[simp] theorem e_sPar (i j : Nat) (f g : FE) (ρ : Ev) : sPar i j f g ρ = (f ρ).bind fun x => (g ρ).bind fun y => if i < ρ.length ∧ j < ρ.length then .ret (.nx ((ρ.set i (.fz x)).set j (.fz y))) else .bad := rfl
@[simp] theorem e_sPar3 (i j l : Nat) (f g h : FE) (ρ : Ev) : sPar3 i j l f g h ρ = (f ρ).bind fun x => (g ρ).bind fun y => (h ρ).bind fun z => if i < ρ.length ∧ j < ρ.length ∧ l < ρ.length then .ret (.nx (((ρ.set i (.fz x)).set j (.fz y)).set l (.fz z))) else .bad := rfl
theorem e_sAsgG (f : FE) (g : FG) (ρ : Ev) : sAsg f g ρ = (f ρ).bind fun x => match g x ρ with
  | some ρ' => .ret (.nx ρ')
  | none => .bad := rfl
/-! ### operators -/
@[simp] theorem o_addI (i j : Int) : gAdd (.int i) (.int j) = .ret (.int (i + j)) := rfl
@[simp] theorem o_addJ (i j : Int) : gAddI (.int i) (.int j) = .ret (.int (i + j)) := rfl
@[simp] theorem o_subI (i j : Int) : gSub (.int i) (.int j) = .ret (.int (i - j)) := rfl
theorem fit_ok {n : Nat} {m : M D} (h : n ≤ sizeMax) : fit n m = m := if_pos h
theorem o_addS {a b : List Nat} (h : a.length + b.length ≤ sizeMax) : gAdd (.str a) (.str b) = .ret (.str (a ++ b)) := if_pos h
theorem o_addL {a b : List D} (h : a.length + b.length ≤ sizeMax) : gAdd (.lst a) (.lst b) = .ret (.lst (a ++ b)) := if_pos h
theorem o_addT {a b : List D} (h : a.length + b.length ≤ sizeMax) : gAdd (.tup a) (.tup b) = .ret (.tup (a ++ b)) := if_pos h
@[simp] theorem o_le (i j : Int) : gLe (.int i) (.int j) = .ret (.bl (decide (i ≤ j))) := rfl
@[simp] theorem o_lt (i j : Int) : gLt (.int i) (.int j) = .ret (.bl (decide (i < j))) := rfl
@[simp] theorem o_ge (i j : Int) : gGe (.int i) (.int j) = .ret (.bl (decide (j ≤ i))) := rfl
@[simp] theorem o_gt (i j : Int) : gGt (.int i) (.int j) = .ret (.bl (decide (j < i))) := rfl
@[simp] theorem o_eqI (i j : Int) : gEq (.int i) (.int j) = .ret (.bl (i == j)) := rfl
@[simp] theorem o_neI (i j : Int) : gNe (.int i) (.int j) = .ret (.bl (!(i == j))) := rfl
@[simp] theorem o_eqS (a b : List Nat) : gEq (.str a) (.str b) = .ret (.bl (a == b)) := rfl
@[simp] theorem o_neS (a b : List Nat) : gNe (.str a) (.str b) = .ret (.bl (!(a == b))) := rfl
@[simp] theorem o_lenL (xs : List D) : gLen (.lst xs) = .ret (.int xs.length) := rfl
@[simp] theorem o_lenT (xs : List D) : gLen (.tup xs) = .ret (.int xs.length) := rfl
theorem o_lenS {s : List Nat} (h : s.length ≤ sizeMax) : gLen (.str s) = .ret (.int s.length) := if_pos h
@[simp] theorem o_tupL (xs : List D) : gTuple (.lst xs) = .ret (.tup xs) := rfl
@[simp] theorem o_tupT (xs : List D) : gTuple (.tup xs) = .ret (.tup xs) := rfl
@[simp] theorem o_isN (d : D) : gIs d .non = .ret (.bl (isNon d)) := by cases d <;> rfl
@[simp] theorem o_isNotN (d : D) : gIsNot d .non = .ret (.bl (!isNon d)) := by cases d <;> rfl
theorem o_tup {xs : List D} (h : xs.length ≤ sizeMax) : gTup xs = .ret (.tup xs) := if_pos h
theorem o_lst {xs : List D} (h : xs.length ≤ sizeMax) : gLst xs = .ret (.lst xs) := if_pos h
@[simp] theorem o_tup0 : gTup [] = .ret (.tup []) := rfl
@[simp] theorem o_tup1 (a : D) : gTup [a] = .ret (.tup [a]) := rfl
@[simp] theorem o_tup2 (a b : D) : gTup [a, b] = .ret (.tup [a, b]) := rfl
@[simp] theorem o_tup3 (a b c : D) : gTup [a, b, c] = .ret (.tup [a, b, c]) := rfl
@[simp] theorem o_tup4 (a b c d : D) : gTup [a, b, c, d] = .ret (.tup [a, b, c, d]) := rfl
@[simp] theorem o_lst0 : gLst [] = .ret (.lst []) := rfl
@[simp] theorem o_lst1 (a : D) : gLst [a] = .ret (.lst [a]) := rfl
@[simp] theorem o_lst2 (a b : D) : gLst [a, b] = .ret (.lst [a, b]) := rfl
theorem o_modI {i j : Int} (h : 0 < j) : gMod (.int i) (.int j) = .ret (.int (i % j)) := if_pos h
theorem o_divI {i j : Int} (h : 0 < j) (h2 : j < 1073741824) : gDiv (.int i) (.int j) = .ret (.int (i / j)) := if_pos ⟨h, by omega⟩
theorem o_mulI {i j : Int} (h : (small i || small j) = true) : gMul (.int i) (.int j) = .ret (.int (i * j)) := if_pos h
@[simp] theorem o_sumL (xs : List D) : gSum (.lst xs) = onO (asInts xs) fun ns => .ret (.int ns.sum) := rfl
@[simp] theorem o_allL (xs : List D) : gAll (.lst xs) = onO (asBools xs) fun ns => .ret (.bl (ns.all id)) := rfl
@[simp] theorem onO_some {α : Type} (a : α) (g : α → M D) : onO (some a) g = g a := rfl
theorem asBools_map {α : Type} (f : α → Bool) : ∀ xs : List α, asBools (xs.map fun x => D.bl (f x)) = some (xs.map f)
  | [] => rfl
  | x :: xs => by
    show (asBools (xs.map fun x => D.bl (f x))).map (f x :: ·) = _
    rw [asBools_map f xs]; rfl
theorem asInts_map {α : Type} (f : α → Int) : ∀ xs : List α, asInts (xs.map fun x => D.int (f x)) = some (xs.map f)
  | [] => rfl
  | x :: xs => by
    show (asInts (xs.map fun x => D.int (f x))).map (f x :: ·) = _
    rw [asInts_map f xs]; rfl
theorem asStrs_map {α : Type} (f : α → List Nat) : ∀ xs : List α, asStrs (xs.map fun x => D.str (f x)) = some (xs.map f)
  | [] => rfl
  | x :: xs => by
    show (asStrs (xs.map fun x => D.str (f x))).map (f x :: ·) = _
    rw [asStrs_map f xs]; rfl
theorem ix_natT {xs : List D} {i : Nat} {d : D} (h : xs[i]? = some d) : gIx (.tup xs) (.int i) = .ret d := by
  show ofO (at? xs (i : Int)) = _
  unfold at?
  rw [if_pos (by omega), Int.toNat_natCast, h]
  rfl
theorem ix_natL {xs : List D} {i : Nat} {d : D} (h : xs[i]? = some d) : gIx (.lst xs) (.int i) = .ret d := by
  show ofO (at? xs (i : Int)) = _
  unfold at?
  rw [if_pos (by omega), Int.toNat_natCast, h]
  rfl
theorem ix_natS {s : List Nat} {i c : Nat} (hz : s.length ≤ sizeMax) (h : s[i]? = some c) : gIx (.str s) (.int i) = .ret (.str [c]) := by
  show fit s.length (ofO ((at? s (i : Int)).map _)) = _
  rw [fit_ok hz]
  unfold at?
  rw [if_pos (by omega), Int.toNat_natCast, h]
  rfl
@[simp] theorem o_isT (t : Ty) (d : D) : gIsT t d = match isTy t d with
  | some b => .ret (.bl b)
  | none => .bad := rfl
theorem o_roll {n : Nat} (h0 : 0 < n) (h : n < 1073741824) : gRoll [.cup, .int n] = .draw n fun i => .ret (.int i) := by
  show (if 0 < (n : Int) ∧ (n : Int).natAbs < 1073741824 then _ else _) = _
  rw [if_pos ⟨by omega, by omega⟩]
  rfl
end WK
namespace WK
/-- a loop that goes to its end; st ys: the names behind the turns ys -/
theorem loop_pre {g : FG} {b : FS} {α : Type} {e : α → D} (st : List α → Ev → Prop) (xs : List α) (ρ : Ev) (h0 : st [] ρ) (hs : ∀ ys x zs ρ, xs = ys ++ x :: zs → st ys ρ → ∃ ρ', turn g b (e x) ρ = .ret (.nx ρ') ∧ st (ys ++ [x]) ρ') :
    ∃ ρ', loop g b (xs.map e) ρ = .ret (.nx ρ') ∧ st xs ρ' := by
  suffices h : ∀ (zs ys : List α) (ρ : Ev), xs = ys ++ zs → st ys ρ → ∃ ρ', loop g b (zs.map e) ρ = .ret (.nx ρ') ∧ st xs ρ' from h xs [] ρ rfl h0
  intro zs
  induction zs with
  | nil => intro ys ρ e h; rw [List.append_nil] at e; subst e; exact ⟨ρ, rfl, h⟩
  | cons z zs ih =>
    intro ys ρ e1 h
    obtain ⟨ρ1, e2, h1⟩ := hs ys z zs ρ e1 h
    obtain ⟨ρ2, e3, h2⟩ := ih (ys ++ [z]) ρ1 (by rw [e1, List.append_assoc]; rfl) h1
    exact ⟨ρ2, by rw [List.map_cons, loop_cons, e2]; exact e3, h2⟩
theorem turn_name {i : Nat} {b : FS} {x : D} {ρ : Ev} (h : i < ρ.length) : turn (gtName i) b x ρ = b (ρ.set i (.fz x)) := by
  unfold turn gtName
  rw [if_pos h]
theorem o_lenSetL {xs : List D} {ss : List (List Nat)} (h : asStrs xs = some ss) (hz : ss.length ≤ 4000) : gLenSet (.lst xs) = .ret (.int ((once ss).length : Nat)) := by
  unfold gLenSet
  show onO (asStrs xs) _ = _
  rw [h]
  exact if_pos hz
theorem o_lenSetT {xs : List D} {ss : List (List Nat)} (h : asStrs xs = some ss) (hz : ss.length ≤ 4000) : gLenSet (.tup xs) = .ret (.int ((once ss).length : Nat)) := by
  unfold gLenSet
  show onO (asStrs xs) _ = _
  rw [h]
  exact if_pos hz
theorem nat_beq (a b : Nat) : (((a : Nat) : Int) == ((b : Nat) : Int)) = (a == b) := by
  by_cases h : a = b
  · subst h; simp
  · have h2 : ¬ ((a : Int) = (b : Int)) := by omega
    rw [beq_eq_false_iff_ne.mpr h, beq_eq_false_iff_ne.mpr h2]
theorem o_eqNil {xs : List D} (h : xs.all (D.ok 19) = true) : gEq (.lst xs) (.lst []) = .ret (.bl xs.isEmpty) := by
  unfold gEq
  have h1 : D.ok 20 (.lst xs) = true := h
  have h2 : D.ok 20 (.lst []) = true := rfl
  rw [h1, h2]
  cases xs <;> rfl
theorem o_neNil {xs : List D} (h : xs.all (D.ok 19) = true) : gNe (.lst xs) (.lst []) = .ret (.bl (!xs.isEmpty)) := by
  unfold gNe
  have h1 : D.ok 20 (.lst xs) = true := h
  have h2 : D.ok 20 (.lst []) = true := rfl
  rw [h1, h2]
  cases xs <;> rfl
theorem ok_map {α : Type} {f : α → D} {n : Nat} {xs : List α} (h : ∀ x, D.ok n (f x) = true) : (xs.map f).all (D.ok n) = true := by
  rw [List.all_map]
  exact List.all_eq_true.mpr fun x _ => h x
@[simp] theorem map_isEmpty {α β : Type} (f : α → β) (xs : List α) : (xs.map f).isEmpty = xs.isEmpty := by cases xs <;> rfl
/-- a sign in a text -/
theorem o_inS (c : Nat) (s : List Nat) : gIn (.str [c]) (.str s) = .ret (.bl (decide (c ∈ s))) := rfl
theorem o_notInS (c : Nat) (s : List Nat) : gNotIn (.str [c]) (.str s) = .ret (.bl (!decide (c ∈ s))) := rfl
theorem o_mulT {a : List D} {k : Nat} (h1 : k ≤ 1000) (h2 : a.length ≤ 1000) (h3 : 0 < k) (h4 : 1 ≤ a.length) : gMul (.tup a) (.int k) = .ret (.tup (List.replicate k a).flatten) := by
  have e : gMul (.tup a) (.int (k : Int)) = if (k : Int).natAbs ≤ 1000 ∧ a.length ≤ 1000 ∧ 0 < (k : Int) ∧ 1 ≤ a.length then .ret (.tup (List.replicate (k : Int).toNat a).flatten) else .bad := rfl
  rw [e, if_pos ⟨by omega, h2, by omega, h4⟩, Int.toNat_natCast]
theorem o_mulS {a : List Nat} {k : Nat} (h1 : k ≤ 1000000) (h2 : a.length ≤ 15) : gMul (.str a) (.int k) = .ret (.str (List.replicate k a).flatten) := by
  have e : gMul (.str a) (.int (k : Int)) = if (k : Int).natAbs ≤ 1000000 ∧ a.length ≤ 15 ∧ 0 ≤ (k : Int) then .ret (.str (List.replicate (k : Int).toNat a).flatten) else .bad := rfl
  rw [e, if_pos ⟨by omega, h2, by omega⟩, Int.toNat_natCast]
theorem o_mulL {a : List D} {k : Nat} (h1 : k ≤ 1000000) (h2 : a.length ≤ 15) : gMul (.lst a) (.int k) = .ret (.lst (List.replicate k a).flatten) := by
  have e : gMul (.lst a) (.int (k : Int)) = if (k : Int).natAbs ≤ 1000000 ∧ a.length ≤ 15 ∧ 0 ≤ (k : Int) then .ret (.lst (List.replicate (k : Int).toNat a).flatten) else .bad := rfl
  rw [e, if_pos ⟨by omega, h2, by omega⟩, Int.toNat_natCast]
theorem rep_one {α : Type} (x : α) : ∀ k : Nat, (List.replicate k [x]).flatten = List.replicate k x
  | 0 => rfl
  | k + 1 => by rw [List.replicate_succ, List.flatten_cons, rep_one x k, List.replicate_succ]; rfl
end WK
end

section
set_option Elab.async false
set_option linter.all false
namespace WK
/-! told and due alike -/
def sameElt (rec : List D → M D) : FE := fArgs rec (fCons (fOp gIx (fVar 0) (fVar 2)) (fCons (fOp gIx (fVar 1) (fVar 2)) (fNil)))
def sameBody (rec : List D → M D) : FS := sSeq (sIf (fUn (gIsT .tuple) (fVar 1)) (sSeq (sIf (fOr (fUn gNot (fUn (gIsT .tuple) (fVar 0))) (fOp gNe (fUn gLen (fVar 0)) (fUn gLen (fVar 1)))) (sRet (fC (.bl false))) (sNil)) (sRet (fUn gAll (fLc (iRange1 (fUn gLen (fVar 1))) (gtName 2) (fC (.bl true)) (sameElt rec) [2])))) (sNil)) (sSeq (sIf (fOp gIs (fVar 1) (fC .non)) (sRet (fOp gIs (fVar 0) (fC .non))) (sNil)) (sSeq (sIf (fUn (gIsT .bool) (fVar 1)) (sRet (fIf (fVar 1) (fOp gIs (fVar 0) (fC (.bl true))) (fOp gIs (fVar 0) (fC (.bl false))))) (sNil)) (sSeq (sIf (fUn (gIsT .int) (fVar 1)) (sRet (fAnd (fUn (gIsT .int) (fVar 0)) (fAnd (fUn gNot (fUn (gIsT .bool) (fVar 0))) (fOp gEq (fUn gInt (fVar 0)) (fVar 1))))) (sNil)) (sRet (fAnd (fUn (gIsT .str) (fVar 0)) (fOp gEq (fUn gStr (fVar 0)) (fVar 1)))))))
def sameF : Nat → List D → M D
  | 0 => run 3 2 sNever
  | n + 1 => run 3 2 (sameBody (sameF n))
/-- of these kinds alone, so deep -/
def D.plain : Nat → D → Bool
  | _, .non => true
  | _, .bl _ => true
  | _, .int _ => true
  | _, .str _ => true
  | n + 1, .tup xs => decide (xs.length < 1000) && xs.all (D.plain n)
  | _, _ => false
theorem r_same (n : Nat) (a b : D) : sameF (n + 1) [a, b] = (sameBody (sameF n) [.fz a, .fz b, .no]).bind finish := run_eq rfl
theorem same_int (n : Nat) (i : Int) : sameF (n + 1) [.int i, .int i] = .ret (.bl true) := by
  rw [r_same]
  simp [sameBody, isTy, isNon, gInt]
theorem same_str (n : Nat) (i : List Nat) : sameF (n + 1) [.str i, .str i] = .ret (.bl true) := by
  rw [r_same]
  simp [sameBody, isTy, isNon, gStr]
theorem same_tup (n : Nat) (xs : List D) (hz : xs.length < 1000) (h : ∀ d, d ∈ xs → sameF n [d, d] = .ret (.bl true)) : sameF (n + 1) [.tup xs, .tup xs] = .ret (.bl true) := by
  have e : sizeMax = 16000000 := rfl
  have hl : fLc (iRange1 (fUn gLen (fVar 1))) (gtName 2) (fC (.bl true)) (sameElt (sameF n)) [2] [.fz (.tup xs), .fz (.tup xs), .no] = .ret (.lst ((List.range xs.length).map fun _ => .bl true)) := by
    refine lc_map (e := fun (i : Nat) => .int (i : Int)) ?_ (by rw [List.length_range]; omega) _ fun i hi => ?_
    · simp
      rw [rng1_nat (by omega)]
    · refine ⟨[.fz (.tup xs), .fz (.tup xs), .fz (.int i)], rfl, ?_⟩
      have hi : i < xs.length := List.mem_range.mp hi
      have hx := List.getElem?_eq_getElem hi
      show (M.bind (M.bind (gIx (.tup xs) (.int i)) _) (sameF n)) = _
      rw [ix_natT hx]
      show (M.bind (M.bind (M.bind (gIx (.tup xs) (.int i)) _) _) (sameF n)) = _
      rw [ix_natT hx]
      exact h _ (List.getElem_mem hi)
  rw [r_same]
  simp [sameBody, isTy, hl, asBools_map (fun _ => true)]
theorem same_refl : ∀ (n : Nat) (d : D), D.plain n d = true → sameF (n + 1) [d, d] = .ret (.bl true) := by
  intro n
  induction n with
  | zero =>
    intro d h
    cases d with
    | non => rfl
    | bl b => cases b <;> rfl
    | int i => exact same_int 0 i
    | str s => exact same_str 0 s
    | _ => cases h
  | succ n ih =>
    intro d h
    cases d with
    | non => rfl
    | bl b => cases b <;> rfl
    | int i => exact same_int _ i
    | str s => exact same_str _ s
    | tup xs =>
      have h : (decide (xs.length < 1000) && xs.all (D.plain n)) = true := h
      rw [Bool.and_eq_true, decide_eq_true_eq] at h
      exact same_tup _ xs h.1 fun d hd => ih d (List.all_eq_true.mp h.2 d hd)
    | _ => cases h
end WK
end

section
set_option Elab.async false
set_option linter.all false
set_option maxRecDepth 100000
namespace K80
open WK
def B_law_some : FS := sRet (fOp gIx (fVar 1) (fArgs gRoll (fCons (fVar 0) (fCons (fUn gLen (fVar 1)) (fNil)))))
def S_law_some : List D → M D := run 2 2 B_law_some
def p_law_words_0 : FS := sAsg (fArgs gLst (fCons (fC (.str [])) (fNil))) (gtName 1)
def b_law_words_0 : FS := sAsg (fOp gAdd (fVar 3) (fArgs gLst (fCons (fOp gAdd (fVar 4) (fC (.str [105]))) (fCons (fOp gAdd (fVar 4) (fC (.str [111]))) (fNil))))) (gtName 3)
def b_law_words_1 : FS := sSeq (sAsg (fArgs gLst (fNil)) (gtName 3)) (sSeq (sFor (iSeq (fVar 1)) (gtName 4) b_law_words_0) (sAsg (fVar 3) (gtName 1)))
def B_law_words : FS := sSeq (p_law_words_0) (sSeq (sFor (iRange1 (fVar 0)) (gtName 2) b_law_words_1) (sRet (fVar 1)))
def S_law_words : List D → M D := run 5 1 B_law_words
def p_law_every_0 : FS := sAsg (fArgs gLst (fCons (fArgs gTup (fNil)) (fNil))) (gtName 2)
def b_law_every_0 : FE := fOp gAdd (fVar 5) (fArgs gTup (fCons (fVar 6) (fNil)))
def b_law_every_1 : FS := sAsg (fOp gAdd (fVar 4) (fLc (iSeq (fArgs S_law_words (fCons (fVar 0) (fNil)))) (gtName 6) (fC (.bl true)) (b_law_every_0) [6])) (gtName 4)
def b_law_every_2 : FS := sSeq (sAsg (fArgs gLst (fNil)) (gtName 4)) (sSeq (sFor (iSeq (fVar 2)) (gtName 5) b_law_every_1) (sAsg (fVar 4) (gtName 2)))
def B_law_every : FS := sSeq (p_law_every_0) (sSeq (sFor (iRange1 (fVar 1)) (gtName 3) b_law_every_2) (sRet (fVar 2)))
def S_law_every : List D → M D := run 7 2 B_law_every
def b_law_loose_0 : FE := fOp gEq (fUn gLenSet (fLc (iSeq (fVar 0)) (gtName 2) (fC (.bl true)) (fOp gIx (fVar 2) (fVar 1)) [2])) (fC (.int (1)))
def B_law_loose : FS := sRet (fLc (iRange1 (fUn gLen (fOp gIx (fVar 0) (fC (.int (0)))))) (gtName 1) (b_law_loose_0) (fVar 1) [1])
def S_law_loose : List D → M D := run 3 1 B_law_loose
def B_is_whole : FS := sRet (fAnd (fUn (gIsT .int) (fVar 0)) (fUn gNot (fUn (gIsT .bool) (fVar 0))))
def S_is_whole : List D → M D := run 1 1 B_is_whole
def B_fits_whole : FS := sRet (fAnd (fArgs S_is_whole (fCons (fVar 0) (fNil))) (fChain gLe gLe (fVar 1) (fVar 0) (fVar 2)))
def S_fits_whole : List D → M D := run 3 3 B_fits_whole
def B_need_stakes : FS := sIf (fUn gNot (fArgs S_fits_whole (fCons (fVar 0) (fCons (fC (.int (3))) (fCons (fC (.int (24))) (fNil)))))) (sNever) (sNil)
def S_need_stakes : List D → M D := run 1 1 B_need_stakes
def B_need_rounds : FS := sIf (fUn gNot (fArgs S_fits_whole (fCons (fVar 0) (fCons (fC (.int (1))) (fCons (fC (.int (40))) (fNil)))))) (sNever) (sNil)
def S_need_rounds : List D → M D := run 1 1 B_need_rounds
def b_power_0 : FS := sAsg (fOp gMul (fVar 2) (fVar 0)) (gtName 2)
def B_power : FS := sSeq (sAsg (fC (.int (1))) (gtName 2)) (sSeq (sFor (iRange1 (fVar 1)) (gtName 3) b_power_0) (sRet (fVar 2)))
def S_power : List D → M D := run 4 2 B_power
def p_firm_many_0 : FS := sExpr (fArgs S_need_stakes (fCons (fVar 0) (fNil)))
def p_firm_many_1 : FS := sExpr (fArgs S_need_rounds (fCons (fVar 1) (fNil)))
def p_firm_many_2 : FS := sRet (fArgs S_power (fCons (fOp gSub (fArgs S_power (fCons (fC (.int (2))) (fCons (fVar 1) (fNil)))) (fC (.int (2)))) (fCons (fVar 0) (fNil))))
def B_firm_many : FS := sSeq (p_firm_many_0) (sSeq (p_firm_many_1) (p_firm_many_2))
def S_firm_many : List D → M D := run 2 2 B_firm_many
def b_choices_0 : FS := sAsg (fOp gDiv (fOp gMul (fVar 2) (fOp gSub (fVar 0) (fVar 3))) (fOp gAdd (fVar 3) (fC (.int (1))))) (gtName 2)
def B_choices : FS := sSeq (sAsg (fC (.int (1))) (gtName 2)) (sSeq (sFor (iRange1 (fVar 1)) (gtName 3) b_choices_0) (sRet (fVar 2)))
def S_choices : List D → M D := run 4 2 B_choices
def p_tight_many_0 : FS := sExpr (fArgs S_need_stakes (fCons (fVar 0) (fNil)))
def p_tight_many_1 : FS := sExpr (fArgs S_need_rounds (fCons (fVar 1) (fNil)))
def b_tight_many_0 : FS := sSeq (sAsg (fOp gSub (fOp gSub (fVar 1) (fVar 3)) (fVar 4)) (gtName 5)) (sSeq (sAsg (fOp gSub (fOp gSub (fArgs S_power (fCons (fC (.int (2))) (fCons (fVar 5) (fNil)))) (fIf (fOp gEq (fVar 4) (fC (.int (0)))) (fC (.int (1))) (fC (.int (0))))) (fIf (fOp gEq (fVar 3) (fC (.int (0)))) (fC (.int (1))) (fC (.int (0))))) (gtName 6)) (sSeq (sAsg (fOp gMul (fOp gMul (fArgs S_choices (fCons (fVar 1) (fCons (fVar 3) (fNil)))) (fArgs S_choices (fCons (fOp gSub (fVar 1) (fVar 3)) (fCons (fVar 4) (fNil))))) (fArgs S_power (fCons (fVar 6) (fCons (fVar 0) (fNil))))) (gtName 7)) (sAsg (fOp gAddI (fVar 2) (fIf (fOp gEq (fOp gMod (fOp gAdd (fVar 3) (fVar 4)) (fC (.int (2)))) (fC (.int (0)))) (fVar 7) (fUn gNeg (fVar 7)))) (gtName 2))))
def b_tight_many_1 : FS := sFor (iRange1 (fOp gAdd (fOp gSub (fVar 1) (fVar 3)) (fC (.int (1))))) (gtName 4) b_tight_many_0
def p_tight_many_2 : FS := sFor (iRange1 (fOp gAdd (fVar 1) (fC (.int (1))))) (gtName 3) b_tight_many_1
def B_tight_many : FS := sSeq (p_tight_many_0) (sSeq (p_tight_many_1) (sSeq (sAsg (fC (.int (0))) (gtName 2)) (sSeq (p_tight_many_2) (sRet (fVar 2)))))
def S_tight_many : List D → M D := run 8 2 B_tight_many
def p_first_tight_0 : FS := sExpr (fArgs S_need_stakes (fCons (fVar 0) (fNil)))
def p_first_tight_1 : FS := sExpr (fArgs S_need_rounds (fCons (fVar 1) (fNil)))
def p_first_tight_2 : FS := sIf (fOp gEq (fVar 1) (fC (.int (1)))) (sRet (fC .non)) (sNil)
def p_first_tight_3 : FS := sPar 2 3 (fOp gAdd (fOp gMul (fC (.str [105])) (fOp gSub (fVar 0) (fC (.int (1))))) (fC (.str [111]))) (fOp gAdd (fOp gMul (fC (.str [111])) (fOp gSub (fVar 0) (fC (.int (1))))) (fC (.str [105])))
def p_first_tight_4 : FS := sRet (fOp gAdd (fOp gMul (fArgs gTup (fCons (fVar 2) (fNil))) (fOp gSub (fVar 1) (fC (.int (1))))) (fArgs gTup (fCons (fVar 3) (fNil))))
def B_first_tight : FS := sSeq (p_first_tight_0) (sSeq (p_first_tight_1) (sSeq (p_first_tight_2) (sSeq (p_first_tight_3) (p_first_tight_4))))
def S_first_tight : List D → M D := run 4 2 B_first_tight
def B_is_tuple_of : FS := sRet (fAnd (fUn (gIsT .tuple) (fVar 0)) (fChain gLe gLe (fVar 1) (fUn gLen (fVar 0)) (fVar 2)))
def S_is_tuple_of : List D → M D := run 3 3 B_is_tuple_of
def B_fits_signs : FS := sRet (fAnd (fUn (gIsT .str) (fVar 0)) (fAnd (fChain gLe gLe (fVar 1) (fUn gLen (fVar 0)) (fVar 2)) (fUn gAll (fLc (iSeq (fVar 0)) (gtName 3) (fC (.bl true)) (fOp gIn (fVar 3) (fC (.str [105, 111]))) [3]))))
def S_fits_signs : List D → M D := run 4 3 B_fits_signs
def p_is_told_0 : FS := sExpr (fArgs S_need_stakes (fCons (fVar 0) (fNil)))
def p_is_told_1 : FS := sExpr (fArgs S_need_rounds (fCons (fVar 1) (fNil)))
def p_is_told_2 : FS := sIf (fUn gNot (fArgs S_is_tuple_of (fCons (fVar 2) (fCons (fVar 0) (fCons (fVar 0) (fNil)))))) (sRet (fC (.bl false))) (sNil)
def b_is_told_0 : FE := fOr (fOp gIs (fVar 3) (fC .non)) (fArgs S_fits_signs (fCons (fVar 3) (fCons (fVar 1) (fCons (fVar 1) (fNil)))))
def p_is_told_3 : FS := sRet (fUn gAll (fLc (iSeq (fVar 2)) (gtName 3) (fC (.bl true)) (b_is_told_0) [3]))
def B_is_told : FS := sSeq (p_is_told_0) (sSeq (p_is_told_1) (sSeq (p_is_told_2) (p_is_told_3)))
def S_is_told : List D → M D := run 4 3 B_is_told
def B_need_told : FS := sIf (fUn gNot (fArgs S_is_told (fCons (fVar 0) (fCons (fVar 1) (fCons (fVar 2) (fNil)))))) (sNever) (sNil)
def S_need_told : List D → M D := run 3 3 B_need_told
def B_is_mixed : FS := sRet (fAnd (fOp gIn (fC (.str [105])) (fVar 0)) (fOp gIn (fC (.str [111])) (fVar 0)))
def S_is_mixed : List D → M D := run 1 1 B_is_mixed
def p_firm_with_0 : FS := sExpr (fArgs S_need_told (fCons (fVar 0) (fCons (fVar 1) (fCons (fVar 2) (fNil)))))
def b_firm_with_0 : FS := sAsg (fOp gMul (fVar 3) (fIf (fOp gIs (fVar 4) (fC .non)) (fOp gSub (fArgs S_power (fCons (fC (.int (2))) (fCons (fVar 1) (fNil)))) (fC (.int (2)))) (fIf (fArgs S_is_mixed (fCons (fVar 4) (fNil))) (fC (.int (1))) (fC (.int (0)))))) (gtName 3)
def B_firm_with : FS := sSeq (p_firm_with_0) (sSeq (sAsg (fC (.int (1))) (gtName 3)) (sSeq (sFor (iSeq (fVar 2)) (gtName 4) b_firm_with_0) (sRet (fVar 3))))
def S_firm_with : List D → M D := run 5 3 B_firm_with
def p_first_with_0 : FS := sExpr (fArgs S_need_told (fCons (fVar 0) (fCons (fVar 1) (fCons (fVar 2) (fNil)))))
def b_first_with_0 : FE := fIf (fOp gIs (fVar 4) (fC .non)) (fOp gAdd (fOp gMul (fC (.str [105])) (fOp gSub (fVar 1) (fC (.int (1))))) (fC (.str [111]))) (fVar 4)
def p_first_with_1 : FS := sAsg (fLc (iSeq (fVar 2)) (gtName 4) (fC (.bl true)) (b_first_with_0) [4]) (gtName 3)
def p_first_with_2 : FS := sIf (fUn gNot (fUn gAll (fLc (iSeq (fVar 3)) (gtName 4) (fC (.bl true)) (fArgs S_is_mixed (fCons (fVar 4) (fNil))) [4]))) (sRet (fC .non)) (sNil)
def b_first_with_1 : FE := fUn gJoin (fLc (iSeq (fVar 3)) (gtName 4) (fC (.bl true)) (fOp gIx (fVar 4) (fVar 5)) [4])
def p_first_with_3 : FS := sRet (fUn gTuple (fLc (iRange1 (fVar 1)) (gtName 5) (fC (.bl true)) (b_first_with_1) [5]))
def B_first_with : FS := sSeq (p_first_with_0) (sSeq (p_first_with_1) (sSeq (p_first_with_2) (p_first_with_3)))
def S_first_with : List D → M D := run 6 3 B_first_with
def p_law_right_0 : FS := sAsg (fArgs S_law_some (fCons (fVar 0) (fCons (fArgs gLst (fCons (fArgs gTup (fCons (fC (.int (3))) (fCons (fC (.int (1))) (fNil)))) (fCons (fArgs gTup (fCons (fC (.int (3))) (fCons (fC (.int (2))) (fNil)))) (fCons (fArgs gTup (fCons (fC (.int (3))) (fCons (fC (.int (3))) (fNil)))) (fCons (fArgs gTup (fCons (fC (.int (4))) (fCons (fC (.int (2))) (fNil)))) (fCons (fArgs gTup (fCons (fC (.int (4))) (fCons (fC (.int (3))) (fNil)))) (fCons (fArgs gTup (fCons (fC (.int (5))) (fCons (fC (.int (2))) (fNil)))) (fCons (fArgs gTup (fCons (fC (.int (7))) (fCons (fC (.int (1))) (fNil)))) (fNil))))))))) (fNil)))) (gtTup [gtName 1, gtName 2])
def b_law_right_0 : FE := fOp gEq (fArgs S_law_loose (fCons (fVar 7) (fNil))) (fArgs gLst (fNil))
def p_law_right_1 : FS := sAsg (fLc (iSeq (fArgs S_law_every (fCons (fVar 1) (fCons (fVar 2) (fNil))))) (gtName 7) (b_law_right_0) (fVar 7) [7]) (gtName 3)
def b_law_right_1 : FE := fOr (fOp gNotIn (fC (.str [105])) (fVar 8)) (fOp gNotIn (fC (.str [111])) (fVar 8))
def b_law_right_2 : FE := fOp gEq (fLc (iSeq (fVar 7)) (gtName 8) (b_law_right_1) (fVar 8) [8]) (fArgs gLst (fNil))
def p_law_right_2 : FS := sAsg (fLc (iSeq (fVar 3)) (gtName 7) (b_law_right_2) (fVar 7) [7]) (gtName 4)
def p_law_right_3 : FS := sAsg (fArgs gTup (fCons (fArgs S_firm_many (fCons (fVar 1) (fCons (fVar 2) (fNil)))) (fCons (fArgs S_tight_many (fCons (fVar 1) (fCons (fVar 2) (fNil)))) (fCons (fArgs S_first_tight (fCons (fVar 1) (fCons (fVar 2) (fNil)))) (fNil))))) (gtName 5)
def p_law_right_4 : FS := sIf (fUn gNot (fArgs (sameF 6) (fCons (fVar 5) (fCons (fArgs gTup (fCons (fUn gLen (fVar 3)) (fCons (fUn gLen (fVar 4)) (fCons (fIf (fOp gNe (fVar 4) (fArgs gLst (fNil))) (fOp gIx (fVar 4) (fC (.int (0)))) (fC .non)) (fNil))))) (fNil))))) (sRet (fC (.bl false))) (sNil)
def p_law_right_5 : FS := sAsg (fOp gMul (fArgs gTup (fCons (fC .non) (fNil))) (fVar 1)) (gtName 6)
def p_law_right_6 : FS := sRet (fArgs (sameF 6) (fCons (fArgs gTup (fCons (fArgs S_firm_with (fCons (fVar 1) (fCons (fVar 2) (fCons (fVar 6) (fNil))))) (fCons (fArgs S_first_with (fCons (fVar 1) (fCons (fVar 2) (fCons (fVar 6) (fNil))))) (fNil)))) (fCons (fArgs gTup (fCons (fUn gLen (fVar 3)) (fCons (fIf (fOp gNe (fVar 3) (fArgs gLst (fNil))) (fOp gIx (fVar 3) (fC (.int (0)))) (fC .non)) (fNil)))) (fNil))))
def B_law_right : FS := sSeq (p_law_right_0) (sSeq (p_law_right_1) (sSeq (p_law_right_2) (sSeq (p_law_right_3) (sSeq (p_law_right_4) (sSeq (p_law_right_5) (p_law_right_6))))))
def S_law_right : List D → M D := run 9 1 B_law_right
def b_law_0 : FS := sIf (fUn gNot (fArgs S_law_right (fCons (fVar 1) (fNil)))) (sRet (fC (.bl false))) (sNil)
def p_law_0 : FS := sPar3 3 4 5 (fOp gAdd (fC (.int (3))) (fArgs gRoll (fCons (fVar 1) (fCons (fC (.int (22))) (fNil))))) (fOp gAdd (fC (.int (2))) (fArgs gRoll (fCons (fVar 1) (fCons (fC (.int (39))) (fNil))))) (fC (.int (1)))
def b_law_1 : FS := sAsg (fOp gMul (fVar 5) (fC (.int (2)))) (gtName 5)
def p_law_1 : FS := sAsg (fArgs S_first_tight (fCons (fVar 3) (fCons (fVar 4) (fNil)))) (gtName 7)
def p_law_2 : FS := sIf (fOr (fUn gNot (fUn (gIsT .tuple) (fVar 7))) (fOr (fOp gNe (fUn gLen (fVar 7)) (fVar 4)) (fOp gNe (fArgs S_law_loose (fCons (fVar 7) (fNil))) (fArgs gLst (fNil))))) (sRet (fC (.bl false))) (sNil)
def p_law_3 : FS := sRet (fArgs (sameF 6) (fCons (fArgs gTup (fCons (fArgs S_firm_many (fCons (fVar 3) (fCons (fC (.int (2))) (fNil)))) (fCons (fArgs S_tight_many (fCons (fVar 3) (fCons (fC (.int (2))) (fNil)))) (fCons (fArgs S_tight_many (fCons (fVar 3) (fCons (fC (.int (1))) (fNil)))) (fNil))))) (fCons (fArgs gTup (fCons (fVar 5) (fCons (fOp gSub (fVar 5) (fC (.int (2)))) (fCons (fC (.int (0))) (fNil))))) (fNil))))
def B_law : FS := sSeq (sFor (iRange1 (fC (.int (2)))) (gtName 2) b_law_0) (sSeq (p_law_0) (sSeq (sFor (iRange1 (fVar 3)) (gtName 6) b_law_1) (sSeq (p_law_1) (sSeq (p_law_2) (p_law_3)))))
theorem r_law_some (a0 a1 : D) : S_law_some [a0, a1] = (B_law_some [.fz a0, .fz a1]).bind finish := run_eq rfl
theorem r_law_words (a0 : D) : S_law_words [a0] = (B_law_words [.fz a0, .no, .no, .no, .no]).bind finish := run_eq rfl
theorem r_law_every (a0 a1 : D) : S_law_every [a0, a1] = (B_law_every [.fz a0, .fz a1, .no, .no, .no, .no, .no]).bind finish := run_eq rfl
theorem r_law_loose (a0 : D) : S_law_loose [a0] = (B_law_loose [.fz a0, .no, .no]).bind finish := run_eq rfl
theorem r_is_whole (a0 : D) : S_is_whole [a0] = (B_is_whole [.fz a0]).bind finish := run_eq rfl
theorem r_fits_whole (a0 a1 a2 : D) : S_fits_whole [a0, a1, a2] = (B_fits_whole [.fz a0, .fz a1, .fz a2]).bind finish := run_eq rfl
theorem r_need_stakes (a0 : D) : S_need_stakes [a0] = (B_need_stakes [.fz a0]).bind finish := run_eq rfl
theorem r_need_rounds (a0 : D) : S_need_rounds [a0] = (B_need_rounds [.fz a0]).bind finish := run_eq rfl
theorem r_power (a0 a1 : D) : S_power [a0, a1] = (B_power [.fz a0, .fz a1, .no, .no]).bind finish := run_eq rfl
theorem r_firm_many (a0 a1 : D) : S_firm_many [a0, a1] = (B_firm_many [.fz a0, .fz a1]).bind finish := run_eq rfl
theorem r_choices (a0 a1 : D) : S_choices [a0, a1] = (B_choices [.fz a0, .fz a1, .no, .no]).bind finish := run_eq rfl
theorem r_tight_many (a0 a1 : D) : S_tight_many [a0, a1] = (B_tight_many [.fz a0, .fz a1, .no, .no, .no, .no, .no, .no]).bind finish := run_eq rfl
theorem r_first_tight (a0 a1 : D) : S_first_tight [a0, a1] = (B_first_tight [.fz a0, .fz a1, .no, .no]).bind finish := run_eq rfl
theorem r_is_tuple_of (a0 a1 a2 : D) : S_is_tuple_of [a0, a1, a2] = (B_is_tuple_of [.fz a0, .fz a1, .fz a2]).bind finish := run_eq rfl
theorem r_fits_signs (a0 a1 a2 : D) : S_fits_signs [a0, a1, a2] = (B_fits_signs [.fz a0, .fz a1, .fz a2, .no]).bind finish := run_eq rfl
theorem r_is_told (a0 a1 a2 : D) : S_is_told [a0, a1, a2] = (B_is_told [.fz a0, .fz a1, .fz a2, .no]).bind finish := run_eq rfl
theorem r_need_told (a0 a1 a2 : D) : S_need_told [a0, a1, a2] = (B_need_told [.fz a0, .fz a1, .fz a2]).bind finish := run_eq rfl
theorem r_is_mixed (a0 : D) : S_is_mixed [a0] = (B_is_mixed [.fz a0]).bind finish := run_eq rfl
theorem r_firm_with (a0 a1 a2 : D) : S_firm_with [a0, a1, a2] = (B_firm_with [.fz a0, .fz a1, .fz a2, .no, .no]).bind finish := run_eq rfl
theorem r_first_with (a0 a1 a2 : D) : S_first_with [a0, a1, a2] = (B_first_with [.fz a0, .fz a1, .fz a2, .no, .no, .no]).bind finish := run_eq rfl
theorem r_law_right (a0 : D) : S_law_right [a0] = (B_law_right [.fz a0, .no, .no, .no, .no, .no, .no, .no, .no]).bind finish := run_eq rfl
end K80
end

section
set_option Elab.async false
set_option linter.all false
set_option maxRecDepth 100000
set_option maxHeartbeats 4000000
namespace K80
open PySem L2 WK PyProof.Rows
def top (i : Nat) : Stmt := PySem.Challenge.pw_wickerwork_k80_whole_rounds_that_hold.main.body.getD i (.Pass ⟨0, 0, 0, 0⟩)
structure Tops (K : PySem.W.Frag) (mg : Str → Option Value) : Prop where
  d_law_cup : Fn1 K mg "_law_cup" (top 28)
  d_law_roll : Fn1 K mg "_law_roll" (top 29)
  d_law_some : Fn1 K mg "_law_some" (top 30)
  d_law_words : Fn1 K mg "_law_words" (top 32)
  d_law_every : Fn1 K mg "_law_every" (top 34)
  d_law_loose : Fn1 K mg "_law_loose" (top 33)
  d_is_whole : Fn1 K mg "is_whole" (top 10)
  d_fits_whole : Fn1 K mg "fits_whole" (top 11)
  d_need_stakes : Fn1 K mg "need_stakes" (top 14)
  d_need_rounds : Fn1 K mg "need_rounds" (top 16)
  d_power : Fn1 K mg "power" (top 19)
  d_firm_many : Fn1 K mg "firm_many" (top 21)
  d_choices : Fn1 K mg "choices" (top 20)
  d_tight_many : Fn1 K mg "tight_many" (top 22)
  d_first_tight : Fn1 K mg "first_tight" (top 23)
  d_law_same : Fn1 K mg "_law_same" (top 31)
  d_is_tuple_of : Fn1 K mg "is_tuple_of" (top 12)
  d_fits_signs : Fn1 K mg "fits_signs" (top 13)
  d_is_told : Fn1 K mg "is_told" (top 26)
  d_need_told : Fn1 K mg "need_told" (top 18)
  d_is_mixed : Fn1 K mg "is_mixed" (top 17)
  d_firm_with : Fn1 K mg "firm_with" (top 24)
  d_first_with : Fn1 K mg "first_with" (top 25)
  d_law_right : Fn1 K mg "_law_right" (top 35)
  b_abs : mg "abs" = none
  b_all : mg "all" = none
  b_bool : mg "bool" = none
  b_int : mg "int" = none
  b_isinstance : mg "isinstance" = none
  b_len : mg "len" = none
  b_list : mg "list" = none
  b_range : mg "range" = none
  b_set : mg "set" = none
  b_str : mg "str" = none
  b_tuple : mg "tuple" = none
  g_SIGNS : ∃ t, mg "SIGNS" = some (.str "io" t)
  g_LEAST : ∃ t, mg "LEAST" = some (.int (3) t)
  g_STAKES : ∃ t, mg "STAKES" = some (.int (24) t)
  g_HIGH : ∃ t, mg "HIGH" = some (.int (40) t)
section
variable {P : Program} {w : World} {K : PySem.W.Frag} {mg : Str → Option Value} {base : Heap}
/-! law_cup -/
abbrev n_law_cup : List Str := ["script", "cell"]
theorem sc_law_cup : FnScope n_law_cup ["script"] (defScope (top 28)) := ⟨rfl, rfl, rfl, by decide +kernel, rfl, by decide +kernel, by decide +kernel⟩
theorem ok_law_cup (T : Tops K mg) : OkC P w K mg base := by
  obtain ⟨f, fd, hm, F⟩ := T.d_law_cup
  have nd := sc_law_cup.nd
  exact ⟨f, fd, hm, F.kp, F.bindsN (fun _ _ _ _ _ _ us hl => match us, hl with | [_], _ => rfl), F.ok sc_law_cup (fun vs H Q E h => by obtain ⟨a, ns, rfl, _⟩ := h; rfl) fun cdv A outer s H vs Q E hr hsp => ⟨tCup K 79 317 4127 2077503167 227, PSs.nox (pss_cons
    (ps_set (i := 1) nd rfl (.inl rfl) (pe_callB call_abs rfl T.b_abs boot_abs (pa_cons (pe_ix ix_list (pe_op op_cat (pe_callTy call_list_of rfl T.b_list boot_list (pa_cons (pv 0) pa_nil)) (pe_lst (pa_cons pe_int pa_nil))) pe_int (fun _ _ => rfl)) pa_nil)))
    (pss_one (ps_ret (pe_lst (pa_cons (pe_ifExp (pt_cmpR op_ge (pv 1) (pe_op op_pow pe_int pe_int) (nomark _)) (pe_op op_fdiv (pv 1) pe_int) pe_int)
      (pa_cons (pe_op op_add (pe_op op_mod (pe_callTy call_int1 rfl T.b_int boot_int (pa_cons (pe_op op_add (pe_op op_mul (pv 1) pe_int) pe_int) pa_nil)) pe_int) pe_int) pa_nil)))))), cup_go (E := E) (d := 79) (a := 317) (b := 4127) (m := 2077503167) (c := 227) (by decide) hsp⟩⟩
/-! law_roll -/
abbrev n_law_roll : List Str := ["cup", "many", "found", "deep"]
theorem sc_law_roll : FnScope n_law_roll ["cup", "many"] (defScope (top 29)) := ⟨rfl, rfl, rfl, by decide +kernel, rfl, by decide +kernel, by decide +kernel⟩
theorem ok_law_roll (T : Tops K mg) : OkF P w K mg base 1 "_law_roll" ["cup", "many"] gRoll := by
  obtain ⟨f, fd, hm, F⟩ := T.d_law_roll
  have nd := sc_law_roll.nd
  refine ⟨f, fd, hm, F.kp, F.bindsN (fun _ _ _ _ _ _ us hl => match us, hl with | [_, _], _ => rfl), F.ok sc_law_roll (fun vs H Q E h => h.1) fun cdv A outer s H vs Q E hr hsp => ⟨tRoll K 30949 7951 2147482873 251 2147482867 823, PSs.nox (pss_cons
    (ps_if (pt_cmpR op_gt (pe_ix ix_list (pv 0) pe_int (fun _ _ => rfl)) pe_int (nomark _))
      (pss_cons (ps_set (i := 2) nd rfl (.inl rfl) (pe_op op_mod (pe_callTy call_int1 rfl T.b_int boot_int (pa_cons (pe_ix ix_list (pv 0) pe_int (fun _ _ => rfl)) pa_nil)) (pv 1)))
      (pss_cons (ps_asg (pe_op op_fdiv (pe_ix ix_list (pv 0) pe_int (fun _ _ => rfl)) (pv 1)) (pg_sub (pv 0) pe_int set_list))
      (pss_one (ps_ret (pv 2))))) pss_nil)
    (pss_cons (ps_asg (pe_op op_mod (pe_callTy call_int1 rfl T.b_int boot_int (pa_cons (pe_op op_add (pe_op op_mul (pe_ix ix_list (pv 0) pe_int (fun _ _ => rfl)) pe_int) pe_int) pa_nil)) pe_int) (pg_sub (pv 0) pe_int set_list))
    (pss_cons (ps_set (i := 3) nd rfl (.inl rfl) (pe_op op_mod (pe_callTy call_int1 rfl T.b_int boot_int (pa_cons (pe_op op_mul (pe_ix ix_list (pv 0) pe_int (fun _ _ => rfl)) (pe_op op_add (pe_ix ix_list (pv 0) pe_int (fun _ _ => rfl)) pe_int)) pa_nil)) pe_int))
    (pss_one (ps_ret (pe_op op_mod (pe_callTy call_int1 rfl T.b_int boot_int (pa_cons (pe_op op_fdiv (pv 3) pe_int) pa_nil)) (pv 1))))))), roll_go (E := E) (a := 30949) (b := 7951) (m := 2147482873) (c := 251) (m2 := 2147482867) (d := 823) (by decide) hsp⟩, ?_⟩
  intro ds Q h
  match ds, h with
  | [.cup, .int n], h => rfl
/-! law_some -/
abbrev n_law_some : List Str := ["cup", "things"]
theorem sc_law_some : FnScope n_law_some ["cup", "things"] (defScope (top 30)) := ⟨rfl, rfl, rfl, by decide +kernel, rfl, by decide +kernel, by decide +kernel⟩
theorem ok_law_some (T : Tops K mg) : OkF P w K mg base 2 "_law_some" ["cup", "things"] S_law_some := by
  have nd := sc_law_some.nd
  refine okF_run (k := 1) T.d_law_some sc_law_some (fun _ _ _ _ _ _ us hl => match us, hl with | [_, _], _ => rfl) fun fa cdv A outer s H E hr => ?_
  exact (ss_one (s_ret (c_ix (CF.cb (c_var (pv 1))) (CF.cb (c_callO (ok_law_roll T) hr (by decide) rfl (ca_cons (c_var (pv 0)) (ca_cons (c_b1 bi_len rfl T.b_len boot_len (CF.cb (c_var (pv 1)))) ca_nil)))))))
/-! law_words -/
abbrev n_law_words : List Str := ["length", "found", "turn", "longer", "word"]
theorem sc_law_words : FnScope n_law_words ["length"] (defScope (top 32)) := ⟨rfl, rfl, rfl, by decide +kernel, rfl, by decide +kernel, by decide +kernel⟩
theorem ok_law_words (T : Tops K mg) : OkF P w K mg base 1 "_law_words" ["length"] S_law_words := by
  have nd := sc_law_words.nd
  refine okF_run (k := 0) T.d_law_words sc_law_words (fun _ _ _ _ _ _ us hl => match us, hl with | [_], _ => rfl) fun fa cdv A outer s H E hr => ?_
  exact (ss_cons (s_set (ps_set (i := 1) nd rfl (.inl rfl) (CN.cf (c_lst (ca_cons (c_str []) ca_nil))))) (ss_cons (s_for (is := [2]) PassesOwn.never rfl (ci_rng1 rfl T.b_range (CF.cb (c_var (pv 0)))) (cg_name (pg_name (i := 2) nd rfl (.inl rfl))) (ss_cons (s_set (ps_set (i := 3) nd rfl (.inl rfl) (CN.cf (c_lst ca_nil)))) (ss_cons (s_for (is := [4]) PassesOwn.never rfl (ci_seq (c_var (pv 1))) (cg_name (pg_name (i := 4) nd rfl (.inl rfl))) (ss_one (s_set (ps_set (i := 3) nd rfl (.inl rfl) (c_op og_add (CF.cb (c_var (pv 3))) (CF.cb (CN.cf (c_lst (ca_cons (c_op og_add (CF.cb (c_var (pv 4))) (CF.cb (c_str [105]))) (ca_cons (c_op og_add (CF.cb (c_var (pv 4))) (CF.cb (c_str [111]))) ca_nil)))))))))) (ss_one (s_set (ps_set (i := 1) nd rfl (.inl rfl) (c_var (pv 3)))))))) (ss_one (s_ret (c_var (pv 1))))))
/-! law_every -/
abbrev n_law_every : List Str := ["stakes", "rounds", "found", "one", "longer", "row", "word"]
theorem sc_law_every : FnScope n_law_every ["stakes", "rounds"] (defScope (top 34)) := ⟨rfl, rfl, rfl, by decide +kernel, rfl, by decide +kernel, by decide +kernel⟩
theorem ok_law_every (T : Tops K mg) : OkF P w K mg base 2 "_law_every" ["stakes", "rounds"] S_law_every := by
  have nd := sc_law_every.nd
  refine okF_run (k := 1) T.d_law_every sc_law_every (fun _ _ _ _ _ _ us hl => match us, hl with | [_, _], _ => rfl) fun fa cdv A outer s H E hr => ?_
  exact (ss_cons (s_set (ps_set (i := 2) nd rfl (.inl rfl) (CN.cf (c_lst (ca_cons (c_tup ca_nil) ca_nil))))) (ss_cons (s_for (is := [3]) PassesOwn.never rfl (ci_rng1 rfl T.b_range (CF.cb (c_var (pv 1)))) (cg_name (pg_name (i := 3) nd rfl (.inl rfl))) (ss_cons (s_set (ps_set (i := 4) nd rfl (.inl rfl) (CN.cf (c_lst ca_nil)))) (ss_cons (s_for (is := [5]) PassesOwn.never rfl (ci_seq (c_var (pv 2))) (cg_name (pg_name (i := 5) nd rfl (.inr rfl))) (ss_one (s_set (ps_set (i := 4) nd rfl (.inl rfl) (c_op og_add (CF.cb (c_var (pv 4))) (CF.cb (CN.cf (c_lc (own := [("word", 6)]) (is := [6]) rfl nd (cj_seq (CF.cb (c_callO (ok_law_words T) hr (by decide) rfl (ca_cons (c_var (pv 0)) ca_nil)))) (blkOk_by (N := n_law_every) (sc := defScope (top 34)) (by decide +kernel)) (by decide) (fun _ _ _ _ _ => (cg_name (pg_name (i := 6) nd rfl (.inl rfl)))) (fun _ _ _ _ _ => cts_nil) (fun _ _ _ _ _ => (c_op og_add (CF.cb (c_var (pv 5))) (CF.cb (c_tup (ca_cons (c_var (pv 6)) ca_nil))))))))))))) (ss_one (s_set (ps_set (i := 2) nd rfl (.inl rfl) (c_var (pv 4)))))))) (ss_one (s_ret (c_var (pv 2))))))
/-! law_loose -/
abbrev n_law_loose : List Str := ["rounds", "at", "one"]
theorem sc_law_loose : FnScope n_law_loose ["rounds"] (defScope (top 33)) := ⟨rfl, rfl, rfl, by decide +kernel, rfl, by decide +kernel, by decide +kernel⟩
theorem ok_law_loose (T : Tops K mg) : OkF P w K mg base 1 "_law_loose" ["rounds"] S_law_loose := by
  have nd := sc_law_loose.nd
  refine okF_run (k := 0) T.d_law_loose sc_law_loose (fun _ _ _ _ _ _ us hl => match us, hl with | [_], _ => rfl) fun fa cdv A outer s H E hr => ?_
  exact (ss_one (s_ret (CN.cf (c_lc (own := [("at", 1)]) (is := [1]) rfl nd (CI.cj (ci_rng1 rfl T.b_range (CF.cb (c_b1 bi_len rfl T.b_len boot_len (CF.cb (c_ix (CF.cb (c_var (pv 0))) (CF.cb c_int))))))) (blkOk_by (N := n_law_loose) (sc := defScope (top 33)) (by decide +kernel)) (by decide) (fun _ _ _ _ _ => (cg_name (pg_name (i := 1) nd rfl (.inr rfl)))) (fun _ _ _ _ _ => (cts_one (ct_cmp (og_eq hr) (CF.cb (c_lenSet rfl rfl T.b_len rfl T.b_set (CF.cb (CN.cf (c_lc (own := [("one", 2)]) (is := [2]) rfl nd (cj_seq (CF.cb (c_var (pv 0)))) (blkOk_by (N := n_law_loose) (sc := ⟨.function, [(".0", .local), ("at", .cell), ("len", .globalImplicit), ("set", .globalImplicit), ("rounds", .cell)], false, false, []⟩) (by decide +kernel)) (by decide) (fun _ _ _ _ _ => (cg_name (pg_name (i := 2) nd rfl (.inl rfl)))) (fun _ _ _ _ _ => cts_nil) (fun _ _ _ _ _ => (c_ix (CF.cb (c_var (pv 2))) (CF.cb (c_var (pv 1)))))))))) (CF.cb c_int)))) (fun _ _ _ _ _ => (c_var (pv 1)))))))
/-! is_whole -/
abbrev n_is_whole : List Str := ["value"]
theorem sc_is_whole : FnScope n_is_whole ["value"] (defScope (top 10)) := ⟨rfl, rfl, rfl, by decide +kernel, rfl, by decide +kernel, by decide +kernel⟩
theorem ok_is_whole (T : Tops K mg) : OkF P w K mg base 1 "is_whole" ["value"] S_is_whole := by
  have nd := sc_is_whole.nd
  refine okF_run (k := 0) T.d_is_whole sc_is_whole (fun _ _ _ _ _ _ us hl => match us, hl with | [_], _ => rfl) fun fa cdv A outer s H E hr => ?_
  exact (ss_one (s_ret (c_andF (CF.cb (c_isi .int rfl T.b_isinstance rfl T.b_int boot_int (CF.cb (c_var (pv 0))))) (c_oneF (c_not (CF.cb (c_isi .bool rfl T.b_isinstance rfl T.b_bool boot_bool (CF.cb (c_var (pv 0))))))))))
/-! fits_whole -/
abbrev n_fits_whole : List Str := ["value", "low", "high"]
theorem sc_fits_whole : FnScope n_fits_whole ["value", "low", "high"] (defScope (top 11)) := ⟨rfl, rfl, rfl, by decide +kernel, rfl, by decide +kernel, by decide +kernel⟩
theorem ok_fits_whole (T : Tops K mg) : OkF P w K mg base 2 "fits_whole" ["value", "low", "high"] S_fits_whole := by
  have nd := sc_fits_whole.nd
  refine okF_run (k := 1) T.d_fits_whole sc_fits_whole (fun _ _ _ _ _ _ us hl => match us, hl with | [_, _, _], _ => rfl) fun fa cdv A outer s H E hr => ?_
  exact (ss_one (s_ret (c_andF (CF.cb (c_callO (ok_is_whole T) hr (by decide) rfl (ca_cons (c_var (pv 0)) ca_nil))) (c_oneF (c_chain og_le og_le (CF.cb (c_var (pv 1))) (CF.cb (c_var (pv 0))) (CF.cb (c_var (pv 2))))))))
/-! need_stakes -/
abbrev n_need_stakes : List Str := ["value"]
theorem sc_need_stakes : FnScope n_need_stakes ["value"] (defScope (top 14)) := ⟨rfl, rfl, rfl, by decide +kernel, rfl, by decide +kernel, by decide +kernel⟩
theorem ok_need_stakes (T : Tops K mg) : OkF P w K mg base 3 "need_stakes" ["value"] S_need_stakes := by
  have nd := sc_need_stakes.nd
  refine okF_run (k := 2) T.d_need_stakes sc_need_stakes (fun _ _ _ _ _ _ us hl => match us, hl with | [_], _ => rfl) fun fa cdv A outer s H E hr => ?_
  exact (ss_one (s_if (ct_not (ct_val (CF.cb (c_callO (ok_fits_whole T) hr (by decide) rfl (ca_cons (c_var (pv 0)) (ca_cons (c_gint rfl T.g_LEAST) (ca_cons (c_gint rfl T.g_STAKES) ca_nil))))))) ss_never ss_nil))
/-! need_rounds -/
abbrev n_need_rounds : List Str := ["value"]
theorem sc_need_rounds : FnScope n_need_rounds ["value"] (defScope (top 16)) := ⟨rfl, rfl, rfl, by decide +kernel, rfl, by decide +kernel, by decide +kernel⟩
theorem ok_need_rounds (T : Tops K mg) : OkF P w K mg base 3 "need_rounds" ["value"] S_need_rounds := by
  have nd := sc_need_rounds.nd
  refine okF_run (k := 2) T.d_need_rounds sc_need_rounds (fun _ _ _ _ _ _ us hl => match us, hl with | [_], _ => rfl) fun fa cdv A outer s H E hr => ?_
  exact (ss_one (s_if (ct_not (ct_val (CF.cb (c_callO (ok_fits_whole T) hr (by decide) rfl (ca_cons (c_var (pv 0)) (ca_cons c_int (ca_cons (c_gint rfl T.g_HIGH) ca_nil))))))) ss_never ss_nil))
/-! power -/
abbrev n_power : List Str := ["base", "many", "found", "turn"]
theorem sc_power : FnScope n_power ["base", "many"] (defScope (top 19)) := ⟨rfl, rfl, rfl, by decide +kernel, rfl, by decide +kernel, by decide +kernel⟩
theorem ok_power (T : Tops K mg) : OkF P w K mg base 1 "power" ["base", "many"] S_power := by
  have nd := sc_power.nd
  refine okF_run (k := 0) T.d_power sc_power (fun _ _ _ _ _ _ us hl => match us, hl with | [_, _], _ => rfl) fun fa cdv A outer s H E hr => ?_
  exact (ss_cons (s_set (ps_set (i := 2) nd rfl (.inl rfl) c_int)) (ss_cons (s_for (is := [3]) PassesOwn.never rfl (ci_rng1 rfl T.b_range (CF.cb (c_var (pv 1)))) (cg_name (pg_name (i := 3) nd rfl (.inl rfl))) (ss_one (s_set (ps_set (i := 2) nd rfl (.inl rfl) (c_op og_mul (CF.cb (c_var (pv 2))) (CF.cb (c_var (pv 0)))))))) (ss_one (s_ret (c_var (pv 2))))))
/-! firm_many -/
abbrev n_firm_many : List Str := ["stakes", "rounds"]
theorem sc_firm_many : FnScope n_firm_many ["stakes", "rounds"] (defScope (top 21)) := ⟨rfl, rfl, rfl, by decide +kernel, rfl, by decide +kernel, by decide +kernel⟩
theorem ok_firm_many (T : Tops K mg) : OkF P w K mg base 4 "firm_many" ["stakes", "rounds"] S_firm_many := by
  have nd := sc_firm_many.nd
  refine okF_run (k := 3) T.d_firm_many sc_firm_many (fun _ _ _ _ _ _ us hl => match us, hl with | [_, _], _ => rfl) fun fa cdv A outer s H E hr => ?_
  exact (ss_cons (s_expr (ps_expr (c_callO (ok_need_stakes T) hr (by decide) rfl (ca_cons (c_var (pv 0)) ca_nil)))) (ss_cons (s_expr (ps_expr (c_callO (ok_need_rounds T) hr (by decide) rfl (ca_cons (c_var (pv 1)) ca_nil)))) (ss_one (s_ret (c_callO (ok_power T) hr (by decide) rfl (ca_cons (c_op og_sub (CF.cb (c_callO (ok_power T) hr (by decide) rfl (ca_cons c_int (ca_cons (c_var (pv 1)) ca_nil)))) (CF.cb c_int)) (ca_cons (c_var (pv 0)) ca_nil)))))))
/-! choices -/
abbrev n_choices : List Str := ["size", "many", "found", "at"]
theorem sc_choices : FnScope n_choices ["size", "many"] (defScope (top 20)) := ⟨rfl, rfl, rfl, by decide +kernel, rfl, by decide +kernel, by decide +kernel⟩
theorem ok_choices (T : Tops K mg) : OkF P w K mg base 1 "choices" ["size", "many"] S_choices := by
  have nd := sc_choices.nd
  refine okF_run (k := 0) T.d_choices sc_choices (fun _ _ _ _ _ _ us hl => match us, hl with | [_, _], _ => rfl) fun fa cdv A outer s H E hr => ?_
  exact (ss_cons (s_set (ps_set (i := 2) nd rfl (.inl rfl) c_int)) (ss_cons (s_for (is := [3]) PassesOwn.never rfl (ci_rng1 rfl T.b_range (CF.cb (c_var (pv 1)))) (cg_name (pg_name (i := 3) nd rfl (.inl rfl))) (ss_one (s_set (ps_set (i := 2) nd rfl (.inl rfl) (c_op og_div (CF.cb (c_op og_mul (CF.cb (c_var (pv 2))) (CF.cb (c_op og_sub (CF.cb (c_var (pv 0))) (CF.cb (c_var (pv 3))))))) (CF.cb (c_op og_add (CF.cb (c_var (pv 3))) (CF.cb c_int)))))))) (ss_one (s_ret (c_var (pv 2))))))
/-! tight_many -/
abbrev n_tight_many : List Str := ["stakes", "rounds", "found", "outside", "inside", "left", "columns", "ways"]
theorem sc_tight_many : FnScope n_tight_many ["stakes", "rounds"] (defScope (top 22)) := ⟨rfl, rfl, rfl, by decide +kernel, rfl, by decide +kernel, by decide +kernel⟩
theorem ok_tight_many (T : Tops K mg) : OkF P w K mg base 4 "tight_many" ["stakes", "rounds"] S_tight_many := by
  have nd := sc_tight_many.nd
  refine okF_run (k := 3) T.d_tight_many sc_tight_many (fun _ _ _ _ _ _ us hl => match us, hl with | [_, _], _ => rfl) fun fa cdv A outer s H E hr => ?_
  exact (ss_cons (s_expr (ps_expr (c_callO (ok_need_stakes T) hr (by decide) rfl (ca_cons (c_var (pv 0)) ca_nil)))) (ss_cons (s_expr (ps_expr (c_callO (ok_need_rounds T) hr (by decide) rfl (ca_cons (c_var (pv 1)) ca_nil)))) (ss_cons (s_set (ps_set (i := 2) nd rfl (.inl rfl) c_int)) (ss_cons (s_for (is := [3]) PassesOwn.never rfl (ci_rng1 rfl T.b_range (CF.cb (c_op og_add (CF.cb (c_var (pv 1))) (CF.cb c_int)))) (cg_name (pg_name (i := 3) nd rfl (.inl rfl))) (ss_one (s_for (is := [4]) PassesOwn.never rfl (ci_rng1 rfl T.b_range (CF.cb (c_op og_add (CF.cb (c_op og_sub (CF.cb (c_var (pv 1))) (CF.cb (c_var (pv 3))))) (CF.cb c_int)))) (cg_name (pg_name (i := 4) nd rfl (.inl rfl))) (ss_cons (s_set (ps_set (i := 5) nd rfl (.inl rfl) (c_op og_sub (CF.cb (c_op og_sub (CF.cb (c_var (pv 1))) (CF.cb (c_var (pv 3))))) (CF.cb (c_var (pv 4)))))) (ss_cons (s_set (ps_set (i := 6) nd rfl (.inl rfl) (c_op og_sub (CF.cb (c_op og_sub (CF.cb (c_callO (ok_power T) hr (by decide) rfl (ca_cons c_int (ca_cons (c_var (pv 5)) ca_nil)))) (CF.cb (c_if (ct_cmp (og_eq hr) (CF.cb (c_var (pv 4))) (CF.cb c_int)) c_int c_int)))) (CF.cb (c_if (ct_cmp (og_eq hr) (CF.cb (c_var (pv 3))) (CF.cb c_int)) c_int c_int))))) (ss_cons (s_set (ps_set (i := 7) nd rfl (.inl rfl) (c_op og_mul (CF.cb (c_op og_mul (CF.cb (c_callO (ok_choices T) hr (by decide) rfl (ca_cons (c_var (pv 1)) (ca_cons (c_var (pv 3)) ca_nil)))) (CF.cb (c_callO (ok_choices T) hr (by decide) rfl (ca_cons (c_op og_sub (CF.cb (c_var (pv 1))) (CF.cb (c_var (pv 3)))) (ca_cons (c_var (pv 4)) ca_nil)))))) (CF.cb (c_callO (ok_power T) hr (by decide) rfl (ca_cons (c_var (pv 6)) (ca_cons (c_var (pv 0)) ca_nil))))))) (ss_one (s_aug i_add nd rfl (.inl rfl) ip_add (c_if (ct_cmp (og_eq hr) (CF.cb (c_op og_mod (CF.cb (c_op og_add (CF.cb (c_var (pv 3))) (CF.cb (c_var (pv 4))))) (CF.cb c_int))) (CF.cb c_int)) (c_var (pv 7)) (c_neg (CF.cb (c_var (pv 7))))))))))))) (ss_one (s_ret (c_var (pv 2))))))))
/-! first_tight -/
abbrev n_first_tight : List Str := ["stakes", "rounds", "low", "high"]
theorem sc_first_tight : FnScope n_first_tight ["stakes", "rounds"] (defScope (top 23)) := ⟨rfl, rfl, rfl, by decide +kernel, rfl, by decide +kernel, by decide +kernel⟩
theorem ok_first_tight (T : Tops K mg) : OkF P w K mg base 4 "first_tight" ["stakes", "rounds"] S_first_tight := by
  have nd := sc_first_tight.nd
  refine okF_run (k := 3) T.d_first_tight sc_first_tight (fun _ _ _ _ _ _ us hl => match us, hl with | [_, _], _ => rfl) fun fa cdv A outer s H E hr => ?_
  exact (ss_cons (s_expr (ps_expr (c_callO (ok_need_stakes T) hr (by decide) rfl (ca_cons (c_var (pv 0)) ca_nil)))) (ss_cons (s_expr (ps_expr (c_callO (ok_need_rounds T) hr (by decide) rfl (ca_cons (c_var (pv 1)) ca_nil)))) (ss_cons (s_if (ct_cmp (og_eq hr) (CF.cb (c_var (pv 1))) (CF.cb c_int)) (ss_one (s_ret c_non)) ss_nil) (ss_cons (s_par (a := .Constant .none 0 ⟨0, 0, 0, 0⟩) (b := .Constant .none 0 ⟨0, 0, 0, 0⟩) (by decide) (ps_par (by rfl) nd rfl rfl (by decide) rfl rfl (pa_cons (c_op og_add (CF.cb (c_op og_mul (CF.cb (c_str [105])) (CF.cb (c_op og_sub (CF.cb (c_var (pv 0))) (CF.cb c_int))))) (CF.cb (c_str [111]))) (pa_cons (c_op og_add (CF.cb (c_op og_mul (CF.cb (c_str [111])) (CF.cb (c_op og_sub (CF.cb (c_var (pv 0))) (CF.cb c_int))))) (CF.cb (c_str [105]))) pa_nil)) (by rfl))) (ss_one (s_ret (c_op og_add (CF.cb (c_op og_mul (CF.cb (c_tup (ca_cons (c_var (pv 2)) ca_nil))) (CF.cb (c_op og_sub (CF.cb (c_var (pv 1))) (CF.cb c_int))))) (CF.cb (c_tup (ca_cons (c_var (pv 3)) ca_nil))))))))))
/-! law_same -/
abbrev n_law_same : List Str := ["told", "due", "at"]
theorem sc_law_same : FnScope n_law_same ["told", "due"] (defScope (top 31)) := ⟨rfl, rfl, rfl, by decide +kernel, rfl, by decide +kernel, by decide +kernel⟩
theorem ok_law_same_all (T : Tops K mg) : ∀ n, OkF P w K mg base (n + 1) "_law_same" ["told", "due"] (sameF n)
  | 0 => okF_run T.d_law_same sc_law_same (fun _ _ _ _ _ _ us hl => match us, hl with | [_, _], _ => rfl) fun fa cdv A outer s H E hr => ss_never
  | n + 1 => okF_run (k := n + 1) (b := sameBody (sameF n)) T.d_law_same sc_law_same (fun _ _ _ _ _ _ us hl => match us, hl with | [_, _], _ => rfl) fun fa cdv A outer s H E hr => by
    have nd := sc_law_same.nd
    have ih := ok_law_same_all T n
    exact (ss_cons (s_if (ct_val (CF.cb (c_isi .tuple rfl T.b_isinstance rfl T.b_tuple boot_tuple (CF.cb (c_var (pv 1)))))) (ss_cons (s_if (CW.ct (cw_or (ct_not (ct_val (CF.cb (c_isi .tuple rfl T.b_isinstance rfl T.b_tuple boot_tuple (CF.cb (c_var (pv 0))))))) (cw_or1 (ct_cmp (og_ne hr) (CF.cb (c_b1 bi_len rfl T.b_len boot_len (CF.cb (c_var (pv 0))))) (CF.cb (c_b1 bi_len rfl T.b_len boot_len (CF.cb (c_var (pv 1))))))))) (ss_one (s_ret c_bl)) ss_nil) (ss_one (s_ret (c_b1 (bi_all rfl) rfl T.b_all boot_all (CF.cb (CN.cf (c_lc (own := [("at", 2)]) (is := [2]) rfl nd (CI.cj (ci_rng1 rfl T.b_range (CF.cb (c_b1 bi_len rfl T.b_len boot_len (CF.cb (c_var (pv 1))))))) (blkOk_by (N := n_law_same) (sc := defScope (top 31)) (by decide +kernel)) (by decide) (fun _ _ _ _ _ => (cg_name (pg_name (i := 2) nd rfl (.inl rfl)))) (fun _ _ _ _ _ => cts_nil) (fun _ _ _ _ _ => (c_callO ih hr (Nat.le_refl _) rfl (ca_cons (c_ix (CF.cb (c_var (pv 0))) (CF.cb (c_var (pv 2)))) (ca_cons (c_ix (CF.cb (c_var (pv 1))) (CF.cb (c_var (pv 2)))) ca_nil))))))))))) ss_nil) (ss_cons (s_if (ct_cmp og_is (CF.cb (c_var (pv 1))) (CF.cb c_non)) (ss_one (s_ret (c_cmp og_is (CF.cb (c_var (pv 0))) (CF.cb c_non)))) ss_nil) (ss_cons (s_if (ct_val (CF.cb (c_isi .bool rfl T.b_isinstance rfl T.b_bool boot_bool (CF.cb (c_var (pv 1)))))) (ss_one (s_ret (c_if (ct_val (CF.cb (c_var (pv 1)))) (c_cmp og_is (CF.cb (c_var (pv 0))) (CF.cb c_bl)) (c_cmp og_is (CF.cb (c_var (pv 0))) (CF.cb c_bl))))) ss_nil) (ss_cons (s_if (ct_val (CF.cb (c_isi .int rfl T.b_isinstance rfl T.b_int boot_int (CF.cb (c_var (pv 1)))))) (ss_one (s_ret (c_andF (CF.cb (c_isi .int rfl T.b_isinstance rfl T.b_int boot_int (CF.cb (c_var (pv 0))))) (c_andF (CF.cb (c_not (CF.cb (c_isi .bool rfl T.b_isinstance rfl T.b_bool boot_bool (CF.cb (c_var (pv 0))))))) (c_oneF (c_cmp (og_eq hr) (CF.cb (c_t1 bi_int rfl T.b_int boot_int (CF.cb (c_var (pv 0))))) (CF.cb (c_var (pv 1))))))))) ss_nil) (ss_one (s_ret (c_andF (CF.cb (c_isi .str rfl T.b_isinstance rfl T.b_str boot_str (CF.cb (c_var (pv 0))))) (c_oneF (c_cmp (og_eq hr) (CF.cb (c_t1 bi_str rfl T.b_str boot_str (CF.cb (c_var (pv 0))))) (CF.cb (c_var (pv 1))))))))))))
theorem ok_law_same (T : Tops K mg) : OkF P w K mg base 7 "_law_same" ["told", "due"] (sameF 6) := ok_law_same_all T 6
/-! is_tuple_of -/
abbrev n_is_tuple_of : List Str := ["value", "least", "most"]
theorem sc_is_tuple_of : FnScope n_is_tuple_of ["value", "least", "most"] (defScope (top 12)) := ⟨rfl, rfl, rfl, by decide +kernel, rfl, by decide +kernel, by decide +kernel⟩
theorem ok_is_tuple_of (T : Tops K mg) : OkF P w K mg base 1 "is_tuple_of" ["value", "least", "most"] S_is_tuple_of := by
  have nd := sc_is_tuple_of.nd
  refine okF_run (k := 0) T.d_is_tuple_of sc_is_tuple_of (fun _ _ _ _ _ _ us hl => match us, hl with | [_, _, _], _ => rfl) fun fa cdv A outer s H E hr => ?_
  exact (ss_one (s_ret (c_andF (CF.cb (c_isi .tuple rfl T.b_isinstance rfl T.b_tuple boot_tuple (CF.cb (c_var (pv 0))))) (c_oneF (c_chain og_le og_le (CF.cb (c_var (pv 1))) (CF.cb (c_b1 bi_len rfl T.b_len boot_len (CF.cb (c_var (pv 0))))) (CF.cb (c_var (pv 2))))))))
/-! fits_signs -/
abbrev n_fits_signs : List Str := ["value", "least", "most", "sign"]
theorem sc_fits_signs : FnScope n_fits_signs ["value", "least", "most"] (defScope (top 13)) := ⟨rfl, rfl, rfl, by decide +kernel, rfl, by decide +kernel, by decide +kernel⟩
theorem ok_fits_signs (T : Tops K mg) : OkF P w K mg base 1 "fits_signs" ["value", "least", "most"] S_fits_signs := by
  have nd := sc_fits_signs.nd
  refine okF_run (k := 0) T.d_fits_signs sc_fits_signs (fun _ _ _ _ _ _ us hl => match us, hl with | [_, _, _], _ => rfl) fun fa cdv A outer s H E hr => ?_
  exact (ss_one (s_ret (c_andF (CF.cb (c_isi .str rfl T.b_isinstance rfl T.b_str boot_str (CF.cb (c_var (pv 0))))) (c_andF (CF.cb (c_chain og_le og_le (CF.cb (c_var (pv 1))) (CF.cb (c_b1 bi_len rfl T.b_len boot_len (CF.cb (c_var (pv 0))))) (CF.cb (c_var (pv 2))))) (c_oneF (c_b1 (bi_all rfl) rfl T.b_all boot_all (CF.cb (CN.cf (c_lc (own := [("sign", 3)]) (is := [3]) rfl nd (cj_seq (CF.cb (c_var (pv 0)))) (blkOk_by (N := n_fits_signs) (sc := defScope (top 13)) (by decide +kernel)) (by decide) (fun _ _ _ _ _ => (cg_name (pg_name (i := 3) nd rfl (.inl rfl)))) (fun _ _ _ _ _ => cts_nil) (fun _ _ _ _ _ => (c_cmp (og_in hr) (CF.cb (c_var (pv 3))) (CF.cb (c_gstr [105, 111] rfl T.g_SIGNS)))))))))))))
/-! is_told -/
abbrev n_is_told : List Str := ["stakes", "rounds", "value", "one"]
theorem sc_is_told : FnScope n_is_told ["stakes", "rounds", "value"] (defScope (top 26)) := ⟨rfl, rfl, rfl, by decide +kernel, rfl, by decide +kernel, by decide +kernel⟩
theorem ok_is_told (T : Tops K mg) : OkF P w K mg base 4 "is_told" ["stakes", "rounds", "value"] S_is_told := by
  have nd := sc_is_told.nd
  refine okF_run (k := 3) T.d_is_told sc_is_told (fun _ _ _ _ _ _ us hl => match us, hl with | [_, _, _], _ => rfl) fun fa cdv A outer s H E hr => ?_
  exact (ss_cons (s_expr (ps_expr (c_callO (ok_need_stakes T) hr (by decide) rfl (ca_cons (c_var (pv 0)) ca_nil)))) (ss_cons (s_expr (ps_expr (c_callO (ok_need_rounds T) hr (by decide) rfl (ca_cons (c_var (pv 1)) ca_nil)))) (ss_cons (s_if (ct_not (ct_val (CF.cb (c_callO (ok_is_tuple_of T) hr (by decide) rfl (ca_cons (c_var (pv 2)) (ca_cons (c_var (pv 0)) (ca_cons (c_var (pv 0)) ca_nil))))))) (ss_one (s_ret c_bl)) ss_nil) (ss_one (s_ret (c_b1 (bi_all rfl) rfl T.b_all boot_all (CF.cb (CN.cf (c_lc (own := [("one", 3)]) (is := [3]) rfl nd (cj_seq (CF.cb (c_var (pv 2)))) (blkOk_by (N := n_is_told) (sc := defScope (top 26)) (by decide +kernel)) (by decide) (fun _ _ _ _ _ => (cg_name (pg_name (i := 3) nd rfl (.inl rfl)))) (fun _ _ _ _ _ => cts_nil) (fun _ _ _ _ _ => (c_orF (CF.cb (c_cmp og_is (CF.cb (c_var (pv 3))) (CF.cb c_non))) (c_oneF (c_callO (ok_fits_signs T) hr (by decide) rfl (ca_cons (c_var (pv 3)) (ca_cons (c_var (pv 1)) (ca_cons (c_var (pv 1)) ca_nil))))))))))))))))
/-! need_told -/
abbrev n_need_told : List Str := ["stakes", "rounds", "value"]
theorem sc_need_told : FnScope n_need_told ["stakes", "rounds", "value"] (defScope (top 18)) := ⟨rfl, rfl, rfl, by decide +kernel, rfl, by decide +kernel, by decide +kernel⟩
theorem ok_need_told (T : Tops K mg) : OkF P w K mg base 5 "need_told" ["stakes", "rounds", "value"] S_need_told := by
  have nd := sc_need_told.nd
  refine okF_run (k := 4) T.d_need_told sc_need_told (fun _ _ _ _ _ _ us hl => match us, hl with | [_, _, _], _ => rfl) fun fa cdv A outer s H E hr => ?_
  exact (ss_one (s_if (ct_not (ct_val (CF.cb (c_callO (ok_is_told T) hr (by decide) rfl (ca_cons (c_var (pv 0)) (ca_cons (c_var (pv 1)) (ca_cons (c_var (pv 2)) ca_nil))))))) ss_never ss_nil))
/-! is_mixed -/
abbrev n_is_mixed : List Str := ["signs"]
theorem sc_is_mixed : FnScope n_is_mixed ["signs"] (defScope (top 17)) := ⟨rfl, rfl, rfl, by decide +kernel, rfl, by decide +kernel, by decide +kernel⟩
theorem ok_is_mixed (T : Tops K mg) : OkF P w K mg base 1 "is_mixed" ["signs"] S_is_mixed := by
  have nd := sc_is_mixed.nd
  refine okF_run (k := 0) T.d_is_mixed sc_is_mixed (fun _ _ _ _ _ _ us hl => match us, hl with | [_], _ => rfl) fun fa cdv A outer s H E hr => ?_
  exact (ss_one (s_ret (c_andF (CF.cb (c_cmp (og_in hr) (CF.cb (c_str [105])) (CF.cb (c_var (pv 0))))) (c_oneF (c_cmp (og_in hr) (CF.cb (c_str [111])) (CF.cb (c_var (pv 0))))))))
/-! firm_with -/
abbrev n_firm_with : List Str := ["stakes", "rounds", "told", "found", "one"]
theorem sc_firm_with : FnScope n_firm_with ["stakes", "rounds", "told"] (defScope (top 24)) := ⟨rfl, rfl, rfl, by decide +kernel, rfl, by decide +kernel, by decide +kernel⟩
theorem ok_firm_with (T : Tops K mg) : OkF P w K mg base 6 "firm_with" ["stakes", "rounds", "told"] S_firm_with := by
  have nd := sc_firm_with.nd
  refine okF_run (k := 5) T.d_firm_with sc_firm_with (fun _ _ _ _ _ _ us hl => match us, hl with | [_, _, _], _ => rfl) fun fa cdv A outer s H E hr => ?_
  exact (ss_cons (s_expr (ps_expr (c_callO (ok_need_told T) hr (by decide) rfl (ca_cons (c_var (pv 0)) (ca_cons (c_var (pv 1)) (ca_cons (c_var (pv 2)) ca_nil)))))) (ss_cons (s_set (ps_set (i := 3) nd rfl (.inl rfl) c_int)) (ss_cons (s_for (is := [4]) PassesOwn.never rfl (ci_seq (c_var (pv 2))) (cg_name (pg_name (i := 4) nd rfl (.inl rfl))) (ss_one (s_set (ps_set (i := 3) nd rfl (.inl rfl) (c_op og_mul (CF.cb (c_var (pv 3))) (CF.cb (c_if (ct_cmp og_is (CF.cb (c_var (pv 4))) (CF.cb c_non)) (c_op og_sub (CF.cb (c_callO (ok_power T) hr (by decide) rfl (ca_cons c_int (ca_cons (c_var (pv 1)) ca_nil)))) (CF.cb c_int)) (c_if (ct_val (CF.cb (c_callO (ok_is_mixed T) hr (by decide) rfl (ca_cons (c_var (pv 4)) ca_nil)))) c_int c_int)))))))) (ss_one (s_ret (c_var (pv 3)))))))
/-! first_with -/
abbrev n_first_with : List Str := ["stakes", "rounds", "told", "rows", "one", "at"]
theorem sc_first_with : FnScope n_first_with ["stakes", "rounds", "told"] (defScope (top 25)) := ⟨rfl, rfl, rfl, by decide +kernel, rfl, by decide +kernel, by decide +kernel⟩
theorem ok_first_with (T : Tops K mg) : OkF P w K mg base 6 "first_with" ["stakes", "rounds", "told"] S_first_with := by
  have nd := sc_first_with.nd
  refine okF_run (k := 5) T.d_first_with sc_first_with (fun _ _ _ _ _ _ us hl => match us, hl with | [_, _, _], _ => rfl) fun fa cdv A outer s H E hr => ?_
  exact (ss_cons (s_expr (ps_expr (c_callO (ok_need_told T) hr (by decide) rfl (ca_cons (c_var (pv 0)) (ca_cons (c_var (pv 1)) (ca_cons (c_var (pv 2)) ca_nil)))))) (ss_cons (s_set (ps_set (i := 3) nd rfl (.inr rfl) (CN.cf (c_lc (own := [("one", 4)]) (is := [4]) rfl nd (cj_seq (CF.cb (c_var (pv 2)))) (blkOk_by (N := n_first_with) (sc := defScope (top 25)) (by decide +kernel)) (by decide) (fun _ _ _ _ _ => (cg_name (pg_name (i := 4) nd rfl (.inl rfl)))) (fun _ _ _ _ _ => cts_nil) (fun _ _ _ _ _ => (c_if (ct_cmp og_is (CF.cb (c_var (pv 4))) (CF.cb c_non)) (c_op og_add (CF.cb (c_op og_mul (CF.cb (c_str [105])) (CF.cb (c_op og_sub (CF.cb (c_var (pv 1))) (CF.cb c_int))))) (CF.cb (c_str [111]))) (c_var (pv 4)))))))) (ss_cons (s_if (ct_not (ct_val (CF.cb (c_b1 (bi_all rfl) rfl T.b_all boot_all (CF.cb (CN.cf (c_lc (own := [("one", 4)]) (is := [4]) rfl nd (cj_seq (CF.cb (c_var (pv 3)))) (blkOk_by (N := n_first_with) (sc := defScope (top 25)) (by decide +kernel)) (by decide) (fun _ _ _ _ _ => (cg_name (pg_name (i := 4) nd rfl (.inl rfl)))) (fun _ _ _ _ _ => cts_nil) (fun _ _ _ _ _ => (c_callO (ok_is_mixed T) hr (by decide) rfl (ca_cons (c_var (pv 4)) ca_nil)))))))))) (ss_one (s_ret c_non)) ss_nil) (ss_one (s_ret (c_t1 bi_tuple rfl T.b_tuple boot_tuple (CF.cb (CN.cf (c_lc (own := [("at", 5)]) (is := [5]) rfl nd (CI.cj (ci_rng1 rfl T.b_range (CF.cb (c_var (pv 1))))) (blkOk_by (N := n_first_with) (sc := defScope (top 25)) (by decide +kernel)) (by decide) (fun _ _ _ _ _ => (cg_name (pg_name (i := 5) nd rfl (.inr rfl)))) (fun _ _ _ _ _ => cts_nil) (fun _ _ _ _ _ => (c_join (by decide +kernel) (CF.cb (CN.cf (c_lc (own := [("one", 4)]) (is := [4]) rfl nd (cj_seq (CF.cb (c_var (pv 3)))) (blkOk_by (N := n_first_with) (sc := ⟨.function, [(".0", .local), ("at", .cell), ("rows", .cell)], false, false, []⟩) (by decide +kernel)) (by decide) (fun _ _ _ _ _ => (cg_name (pg_name (i := 4) nd rfl (.inl rfl)))) (fun _ _ _ _ _ => cts_nil) (fun _ _ _ _ _ => (c_ix (CF.cb (c_var (pv 4))) (CF.cb (c_var (pv 5)))))))))))))))))))
/-! law_right -/
abbrev n_law_right : List Str := ["cup", "stakes", "high", "firm", "tight", "told", "free", "row", "one"]
theorem sc_law_right : FnScope n_law_right ["cup"] (defScope (top 35)) := ⟨rfl, rfl, rfl, by decide +kernel, rfl, by decide +kernel, by decide +kernel⟩
theorem ok_law_right (T : Tops K mg) : OkF P w K mg base 8 "_law_right" ["cup"] S_law_right := by
  have nd := sc_law_right.nd
  refine okF_run (k := 7) T.d_law_right sc_law_right (fun _ _ _ _ _ _ us hl => match us, hl with | [_], _ => rfl) fun fa cdv A outer s H E hr => ?_
  exact (ss_cons (s_asg (is := [1, 2]) (ps_asg (c_callO (ok_law_some T) hr (by decide) rfl (ca_cons (c_var (pv 0)) (ca_cons (CN.cf (c_lst (ca_cons (c_tup (ca_cons c_int (ca_cons c_int ca_nil))) (ca_cons (c_tup (ca_cons c_int (ca_cons c_int ca_nil))) (ca_cons (c_tup (ca_cons c_int (ca_cons c_int ca_nil))) (ca_cons (c_tup (ca_cons c_int (ca_cons c_int ca_nil))) (ca_cons (c_tup (ca_cons c_int (ca_cons c_int ca_nil))) (ca_cons (c_tup (ca_cons c_int (ca_cons c_int ca_nil))) (ca_cons (c_tup (ca_cons c_int (ca_cons c_int ca_nil))) ca_nil))))))))) ca_nil))) (cg_tup rfl (cgs_cons (cg_name (pg_name (i := 1) nd rfl (.inl rfl))) (cgs_cons (cg_name (pg_name (i := 2) nd rfl (.inl rfl))) cgs_nil))))) (ss_cons (s_set (nf (lcs (own := [("row", 7)]) (is := [7]) (ps_setLc (i := 3) (own := [("row", 7)]) rfl nd rfl rfl (sw_true rfl rfl rfl (by decide +kernel)) (cj_seq (CF.cb (c_callO (ok_law_every T) hr (by decide) rfl (ca_cons (c_var (pv 1)) (ca_cons (c_var (pv 2)) ca_nil))))) (blkOk_by (N := n_law_right) (sc := defScope (top 35)) (by decide +kernel)) (fun _ _ _ _ _ => (cg_name (pg_name (i := 7) nd rfl (.inl rfl)))) (fun _ _ _ _ _ => (cts_one (ct_cmp (og_eq hr) (CF.cb (c_callO (ok_law_loose T) hr (by decide) rfl (ca_cons (c_var (pv 7)) ca_nil))) (CF.cb (CN.cf (c_lst ca_nil)))))) (fun _ _ _ _ _ => (c_var (pv 7)))) (by decide)))) (ss_cons (s_set (nf (lcs (own := [("row", 7)]) (is := [7]) (ps_setLc (i := 4) (own := [("row", 7)]) rfl nd rfl rfl (sw_true rfl rfl rfl (by decide +kernel)) (cj_seq (CF.cb (c_var (pv 3)))) (blkOk_by (N := n_law_right) (sc := defScope (top 35)) (by decide +kernel)) (fun _ _ _ _ _ => (cg_name (pg_name (i := 7) nd rfl (.inl rfl)))) (fun _ _ _ _ _ => (cts_one (ct_cmp (og_eq hr) (CF.cb (CN.cf (c_lc (own := [("one", 8)]) (is := [8]) rfl nd (cj_seq (CF.cb (c_var (pv 7)))) (blkOk_by (N := n_law_right) (sc := ⟨.function, [(".0", .local), ("row", .local)], false, false, []⟩) (by decide +kernel)) (by decide) (fun _ _ _ _ _ => (cg_name (pg_name (i := 8) nd rfl (.inl rfl)))) (fun _ _ _ _ _ => (cts_one (CW.ct (cw_or (ct_cmp (og_notIn hr) (CF.cb (c_str [105])) (CF.cb (c_var (pv 8)))) (cw_or1 (ct_cmp (og_notIn hr) (CF.cb (c_str [111])) (CF.cb (c_var (pv 8))))))))) (fun _ _ _ _ _ => (c_var (pv 8)))))) (CF.cb (CN.cf (c_lst ca_nil)))))) (fun _ _ _ _ _ => (c_var (pv 7)))) (by decide)))) (ss_cons (s_set (ps_set (i := 5) nd rfl (.inl rfl) (c_tup (ca_cons (c_callO (ok_firm_many T) hr (by decide) rfl (ca_cons (c_var (pv 1)) (ca_cons (c_var (pv 2)) ca_nil))) (ca_cons (c_callO (ok_tight_many T) hr (by decide) rfl (ca_cons (c_var (pv 1)) (ca_cons (c_var (pv 2)) ca_nil))) (ca_cons (c_callO (ok_first_tight T) hr (by decide) rfl (ca_cons (c_var (pv 1)) (ca_cons (c_var (pv 2)) ca_nil))) ca_nil)))))) (ss_cons (s_if (ct_not (ct_val (CF.cb (c_callO (ok_law_same T) hr (by decide) rfl (ca_cons (c_var (pv 5)) (ca_cons (c_tup (ca_cons (c_b1 bi_len rfl T.b_len boot_len (CF.cb (c_var (pv 3)))) (ca_cons (c_b1 bi_len rfl T.b_len boot_len (CF.cb (c_var (pv 4)))) (ca_cons (c_if (ct_cmp (og_ne hr) (CF.cb (c_var (pv 4))) (CF.cb (CN.cf (c_lst ca_nil)))) (c_ix (CF.cb (c_var (pv 4))) (CF.cb c_int)) c_non) ca_nil)))) ca_nil)))))) (ss_one (s_ret c_bl)) ss_nil) (ss_cons (s_set (ps_set (i := 6) nd rfl (.inl rfl) (c_op og_mul (CF.cb (c_tup (ca_cons c_non ca_nil))) (CF.cb (c_var (pv 1)))))) (ss_one (s_ret (c_callO (ok_law_same T) hr (by decide) rfl (ca_cons (c_tup (ca_cons (c_callO (ok_firm_with T) hr (by decide) rfl (ca_cons (c_var (pv 1)) (ca_cons (c_var (pv 2)) (ca_cons (c_var (pv 6)) ca_nil)))) (ca_cons (c_callO (ok_first_with T) hr (by decide) rfl (ca_cons (c_var (pv 1)) (ca_cons (c_var (pv 2)) (ca_cons (c_var (pv 6)) ca_nil)))) ca_nil))) (ca_cons (c_tup (ca_cons (c_b1 bi_len rfl T.b_len boot_len (CF.cb (c_var (pv 3)))) (ca_cons (c_if (ct_cmp (og_ne hr) (CF.cb (c_var (pv 3))) (CF.cb (CN.cf (c_lst ca_nil)))) (c_ix (CF.cb (c_var (pv 3))) (CF.cb c_int)) c_non) ca_nil))) ca_nil)))))))))))
/-! law -/
abbrev n_law : List Str := ["script", "cup", "turn", "stakes", "high", "ways", "stake", "first"]
theorem sc_law : FnScope n_law ["script"] (defScope (top 36)) := ⟨rfl, rfl, rfl, by decide +kernel, rfl, by decide +kernel, by decide +kernel⟩
theorem ok_law (T : Tops K mg) (hb : (lawM 6 B_law).All isTrue1) {fa : Addr} {fd : FuncData} (F : FunD K "law" "law" (defArgs (top 36)) (defBody (top 36)) (defScope (top 36)) [] [] fa fd) : FnOk P w K mg base CX0 9 fa fd ["script"] (spLaw K) := by
  have nd := sc_law.nd
  refine fn_law (k := 8) F sc_law rfl hb fun cdv A outer s H E hr => ⟨?_, ?_⟩
  · obtain ⟨fc, fdc, hmc, kp, bc, Fc⟩ := ok_law_cup (P := P) (w := w) (base := base) T
    exact ps_set (i := 1) nd rfl (.inl rfl) (pe_call (Fc.mono (by decide : 1 ≤ 8)) hr rfl hmc kp bc .nil pass0 (pa_cons (pv 0) pa_nil))
  · exact (ss_cons (s_for (is := [2]) PassesOwn.never rfl (ci_rng1 rfl T.b_range (CF.cb c_int)) (cg_name (pg_name (i := 2) nd rfl (.inl rfl))) (ss_one (s_if (ct_not (ct_val (CF.cb (c_callO (ok_law_right T) hr (by decide) rfl (ca_cons (c_var (pv 1)) ca_nil))))) (ss_one (s_ret c_bl)) ss_nil))) (ss_cons (s_par3 (ps_par3 (by rfl) nd rfl rfl rfl (by decide) (by decide) (by decide) rfl rfl rfl (pa_cons (c_op og_add (CF.cb c_int) (CF.cb (c_callO (ok_law_roll T) hr (by decide) rfl (ca_cons (c_var (pv 1)) (ca_cons c_int ca_nil))))) (pa_cons (c_op og_add (CF.cb c_int) (CF.cb (c_callO (ok_law_roll T) hr (by decide) rfl (ca_cons (c_var (pv 1)) (ca_cons c_int ca_nil))))) (pa_cons c_int pa_nil))) (by rfl))) (ss_cons (s_for (is := [6]) PassesOwn.never rfl (ci_rng1 rfl T.b_range (CF.cb (c_var (pv 3)))) (cg_name (pg_name (i := 6) nd rfl (.inl rfl))) (ss_one (s_set (ps_set (i := 5) nd rfl (.inl rfl) (c_op og_mul (CF.cb (c_var (pv 5))) (CF.cb c_int)))))) (ss_cons (s_set (ps_set (i := 7) nd rfl (.inl rfl) (c_callO (ok_first_tight T) hr (by decide) rfl (ca_cons (c_var (pv 3)) (ca_cons (c_var (pv 4)) ca_nil))))) (ss_cons (s_if (CW.ct (cw_or (ct_not (ct_val (CF.cb (c_isi .tuple rfl T.b_isinstance rfl T.b_tuple boot_tuple (CF.cb (c_var (pv 7))))))) (cw_or (ct_cmp (og_ne hr) (CF.cb (c_b1 bi_len rfl T.b_len boot_len (CF.cb (c_var (pv 7))))) (CF.cb (c_var (pv 4)))) (cw_or1 (ct_cmp (og_ne hr) (CF.cb (c_callO (ok_law_loose T) hr (by decide) rfl (ca_cons (c_var (pv 7)) ca_nil))) (CF.cb (CN.cf (c_lst ca_nil)))))))) (ss_one (s_ret c_bl)) ss_nil) (ss_one (s_ret (c_callO (ok_law_same T) hr (by decide) rfl (ca_cons (c_tup (ca_cons (c_callO (ok_firm_many T) hr (by decide) rfl (ca_cons (c_var (pv 3)) (ca_cons c_int ca_nil))) (ca_cons (c_callO (ok_tight_many T) hr (by decide) rfl (ca_cons (c_var (pv 3)) (ca_cons c_int ca_nil))) (ca_cons (c_callO (ok_tight_many T) hr (by decide) rfl (ca_cons (c_var (pv 3)) (ca_cons c_int ca_nil))) ca_nil)))) (ca_cons (c_tup (ca_cons (c_var (pv 5)) (ca_cons (c_op og_sub (CF.cb (c_var (pv 5))) (CF.cb c_int)) (ca_cons c_int ca_nil)))) ca_nil))))))))))
end
end K80
end

section
set_option Elab.async false
set_option linter.all false
set_option maxHeartbeats 4000000
open WK
namespace K80
theorem zM : sizeMax = 16000000 := rfl
/-! ### words -/
def two (w : List Nat) : List (List Nat) := [w ++ [105], w ++ [111]]
def words : Nat → List (List Nat)
  | 0 => [[]]
  | n + 1 => (words n).flatMap two
theorem two_len (ws : List (List Nat)) : (ws.flatMap two).length = 2 * ws.length := by
  induction ws with
  | nil => rfl
  | cons w ws ih => rw [List.flatMap_cons, List.length_append, ih, List.length_cons]; show 2 + _ = _; omega
theorem words_len : ∀ n, (words n).length = 2 ^ n
  | 0 => rfl
  | n + 1 => by
    show ((words n).flatMap two).length = _
    rw [two_len, words_len n, Nat.pow_succ]; omega
theorem words_each : ∀ n w, w ∈ words n → w.length = n
  | 0, w, h => by cases List.mem_singleton.mp h; rfl
  | n + 1, w, h => by
    obtain ⟨u, hu, h⟩ := List.mem_flatMap.mp h
    have := words_each n u hu
    simp [two] at h
    rcases h with h | h <;> (rw [h]; simp [this])
theorem words_go (n : Nat) (hn : n ≤ 20) : S_law_words [.int n] = .ret (.lst ((words n).map .str)) := by
  rw [r_law_words]
  obtain ⟨ρ', e, w, x, y, h⟩ := loop_pre (g := gtName 2) (b := b_law_words_1) (e := fun (i : Nat) => D.int (i : Int)) (fun ys ρ => ∃ t l w, ρ = [.fz (.int n), .fz (.lst ((words ys.length).map .str)), t, l, w]) (List.range n)
    [.fz (.int n), .fz (.lst ([[]].map .str)), .no, .no, .no] ⟨_, _, _, rfl⟩ (fun ys i zs ρ hy ⟨t, l, w, e⟩ => by
      subst e
      have hl : ys.length < n := by
        have := congrArg List.length hy
        simp at this
        omega
      have hp : 2 ^ ys.length ≤ 2 ^ 20 := Nat.pow_le_pow_right (by omega) (by omega)
      obtain ⟨ρ1, e1, w1, h1⟩ := loop_pre (g := gtName 4) (b := b_law_words_0) (e := D.str) (fun us ρ => ∃ w, ρ = [.fz (.int n), .fz (.lst ((words ys.length).map .str)), .fz (.int (i : Int)), .fz (.lst ((us.flatMap two).map .str)), w]) (words ys.length)
        [.fz (.int n), .fz (.lst ((words ys.length).map .str)), .fz (.int (i : Int)), .fz (.lst []), w] ⟨_, rfl⟩ (fun us u vs ρ hu ⟨w, e⟩ => by
          subst e
          refine ⟨_, ?_, .fz (.str u), rfl⟩
          have hul : u.length ≤ 20 := by
            rw [words_each ys.length u (by rw [hu]; simp)]; omega
          have hus : us.length ≤ 2 ^ 20 := by
            have := congrArg List.length hu
            rw [words_len] at this
            simp at this
            omega
          rw [turn_name (by simp)]
          simp [b_law_words_0]
          rw [o_addS (by simp [zM]; omega), o_addS (by simp [zM]; omega)]
          simp
          rw [o_addL (by have := two_len us; simp [zM] at this ⊢; omega)]
          simp [two])
      refine ⟨[.fz (.int n), .fz (.lst ((words (ys ++ [i]).length).map .str)), .fz (.int (i : Int)), .fz (.lst ((words (ys ++ [i]).length).map .str)), w1], ?_, _, _, _, rfl⟩
      rw [turn_name (by simp)]
      simp [b_law_words_1]
      rw [e1, h1]
      simp [words])
  simp [B_law_words, p_law_words_0]
  rw [rng1_nat (by omega)]
  simp at e
  simp [e, h]
/-! ### every wall -/
def wall (r : List (List Nat)) : D := .tup (r.map .str)
def every (s : Nat) : Nat → List (List (List Nat))
  | 0 => [[]]
  | n + 1 => (every s n).flatMap fun row => (words s).map fun w => row ++ [w]
theorem ev_len (s : Nat) (rs : List (List (List Nat))) : (rs.flatMap fun row => (words s).map fun w => row ++ [w]).length = 2 ^ s * rs.length := by
  induction rs with
  | nil => rfl
  | cons r rs ih => rw [List.flatMap_cons, List.length_append, ih, List.length_map, words_len, List.length_cons, Nat.mul_succ]; omega
theorem every_len (s : Nat) : ∀ n, (every s n).length = 2 ^ (s * n)
  | 0 => rfl
  | n + 1 => by
    show (List.flatMap _ _).length = _
    rw [ev_len, every_len s n, Nat.mul_succ, Nat.pow_add, Nat.mul_comm]
theorem every_each (s : Nat) : ∀ n r, r ∈ every s n → r.length = n ∧ ∀ w, w ∈ r → w ∈ words s
  | 0, r, h => by cases List.mem_singleton.mp h; exact ⟨rfl, fun w h => by cases h⟩
  | n + 1, r, h => by
    obtain ⟨u, hu, h⟩ := List.mem_flatMap.mp h
    obtain ⟨w, hw, e⟩ := List.mem_map.mp h
    obtain ⟨h1, h2⟩ := every_each s n u hu
    subst e
    refine ⟨by simp [h1], fun v hv => ?_⟩
    rcases List.mem_append.mp hv with hv | hv
    · exact h2 v hv
    · rw [List.mem_singleton.mp hv]; exact hw
theorem every_go (s n : Nat) (hn : s * n ≤ 14) (hs : s ≤ 14) (hn1 : n ≤ 14) : S_law_every [.int s, .int n] = .ret (.lst ((every s n).map wall)) := by
  rw [r_law_every]
  obtain ⟨ρ', e, w, x, y, z, h⟩ := loop_pre (g := gtName 3) (b := b_law_every_2) (e := fun (i : Nat) => D.int (i : Int)) (fun ys ρ => ∃ t l r w, ρ = [.fz (.int s), .fz (.int n), .fz (.lst ((every s ys.length).map wall)), t, l, r, w]) (List.range n)
    [.fz (.int s), .fz (.int n), .fz (.lst ([[]].map wall)), .no, .no, .no, .no] ⟨_, _, _, _, rfl⟩ (fun ys i zs ρ hy ⟨t, l, r, w, e⟩ => by
      subst e
      have hl : ys.length < n := by
        have := congrArg List.length hy
        simp at this
        omega
      have hl2 : s * (ys.length + 1) ≤ 14 := Nat.le_trans (Nat.mul_le_mul_left s hl) hn
      have hp : 2 ^ (s * (ys.length + 1)) ≤ 2 ^ 14 := Nat.pow_le_pow_right (by omega) hl2
      obtain ⟨ρ1, e1, w1, w2, h1⟩ := loop_pre (g := gtName 5) (b := b_law_every_1) (e := wall) (fun us ρ => ∃ r w, ρ = [.fz (.int s), .fz (.int n), .fz (.lst ((every s ys.length).map wall)), .fz (.int (i : Int)), .fz (.lst ((us.flatMap fun row => (words s).map fun w => row ++ [w]).map wall)), r, w]) (every s ys.length)
        [.fz (.int s), .fz (.int n), .fz (.lst ((every s ys.length).map wall)), .fz (.int (i : Int)), .fz (.lst []), r, w] ⟨_, _, rfl⟩ (fun us u vs ρ hu ⟨r, w, e⟩ => by
          subst e
          have hus : 2 ^ s * us.length + 2 ^ s ≤ 2 ^ 14 := by
            have := congrArg List.length hu
            rw [every_len] at this
            simp at this
            have h3 : 2 ^ (s * (ys.length + 1)) = 2 ^ s * 2 ^ (s * ys.length) := by rw [Nat.mul_succ, Nat.pow_add, Nat.mul_comm]
            have h4 : 2 ^ s * (us.length + 1) ≤ 2 ^ s * 2 ^ (s * ys.length) := Nat.mul_le_mul_left _ (by omega)
            rw [Nat.mul_succ] at h4
            omega
          have hul : u.length = ys.length := (every_each s ys.length u (by rw [hu]; simp)).1
          refine ⟨_, ?_, .fz (wall u), w, rfl⟩
          rw [turn_name (by simp)]
          have hc : fLc (iSeq (fArgs S_law_words (fCons (fVar 0) (fNil)))) (gtName 6) (fC (.bl true)) (b_law_every_0) [6] [.fz (.int s), .fz (.int n), .fz (.lst ((every s ys.length).map wall)), .fz (.int (i : Int)), .fz (.lst ((us.flatMap fun row => (words s).map fun w => row ++ [w]).map wall)), .fz (wall u), w] = .ret (.lst ((words s).map fun w => wall (u ++ [w]))) := by
            refine lc_map (e := D.str) ?_ (by rw [words_len, zM]; omega) _ fun v hv => ?_
            · simp [words_go s (by omega)]
            · refine ⟨_, by simp; rfl, ?_⟩
              simp [b_law_every_0, wall]
              rw [o_addT (by simp [zM]; omega)]
          simp [b_law_every_1, hc]
          rw [o_addL (by have := ev_len s us; simp [zM] at this ⊢; rw [this, words_len]; omega)]
          simp)
      refine ⟨[.fz (.int s), .fz (.int n), .fz (.lst ((every s (ys ++ [i]).length).map wall)), .fz (.int (i : Int)), .fz (.lst ((every s (ys ++ [i]).length).map wall)), w1, w2], ?_, _, _, _, _, rfl⟩
      rw [turn_name (by simp)]
      simp [b_law_every_2]
      rw [e1, h1]
      simp [every])
  simp [B_law_every, p_law_every_0]
  rw [rng1_nat (by omega)]
  simp [wall] at e
  simp [e, h]
/-! ### loose stakes -/
def looseC (n : Nat) (r : List (List Nat)) : List Nat := (List.range n).filter fun i => (once (r.map fun w => [w.getD i 0])).length == 1
theorem loose_go (n : Nat) (r : List (List Nat)) (h0 : r ≠ []) (h : ∀ w, w ∈ r → w.length = n) (hn : n ≤ 100) (hr : r.length ≤ 100) : S_law_loose [wall r] = .ret (.lst ((looseC n r).map fun (i : Nat) => .int (i : Int))) := by
  rw [r_law_loose]
  obtain ⟨w, rs, rfl⟩ := List.exists_cons_of_ne_nil h0
  have hw := h w List.mem_cons_self
  have hc : fLc (iRange1 (fUn gLen (fOp gIx (fVar 0) (fC (.int (0)))))) (gtName 1) (b_law_loose_0) (fVar 1) [1] [.fz (wall (w :: rs)), .no, .no] = .ret (.lst ((looseC n (w :: rs)).map fun (i : Nat) => .int (i : Int))) := by
    refine lc_eq (e := fun (i : Nat) => .int (i : Int)) ?_ (by rw [List.length_range, zM]; omega) _ _ fun i hi => ?_
    · simp [wall]
      rw [show (0 : Int) = ((0 : Nat) : Int) from rfl, ix_natT (i := 0) (d := .str w) rfl]
      simp
      rw [o_lenS (by rw [hw, zM]; omega)]
      simp
      rw [rng1_nat (by omega), hw]
    · have hi : i < n := List.mem_range.mp hi
      refine ⟨[.fz (wall (w :: rs)), .fz (.int (i : Int)), .no], by simp, ?_, fun _ => by simp⟩
      have h2 : fLc (iSeq (fVar 0)) (gtName 2) (fC (.bl true)) (fOp gIx (fVar 2) (fVar 1)) [2] [.fz (wall (w :: rs)), .fz (.int (i : Int)), .no] = .ret (.lst ((w :: rs).map fun w => .str [w.getD i 0])) := by
        refine lc_map (e := D.str) ?_ (by rw [zM]; omega) _ fun v hv => ?_
        · simp [wall]
        · refine ⟨_, by simp; rfl, ?_⟩
          have hv := h v hv
          simp
          rw [ix_natS (by rw [hv, zM]; omega) (List.getElem?_eq_getElem (by omega : i < v.length))]
          rw [List.getElem?_eq_getElem (by omega : i < v.length)]
          rfl
      unfold b_law_loose_0
      rw [e_fOp, e_fUn, h2]
      simp only [bind_ret]
      rw [o_lenSetL (asStrs_map (fun (w : List Nat) => [w.getD i 0]) (w :: rs)) (by rw [List.length_map]; omega)]
      simp only [bind_ret, e_fC, o_eqI]
      rw [show (1 : Int) = ((1 : Nat) : Int) from rfl, nat_beq]
  simp only [B_law_loose, e_sRet, hc]
  rfl

/-! ### one turn -/
def firmC (s n : Nat) : List (List (List Nat)) := (every s n).filter fun r => (looseC s r).isEmpty
def mixC (w : List Nat) : Bool := w.contains 105 && w.contains 111
def tightC (s n : Nat) : List (List (List Nat)) := (firmC s n).filter fun r => r.all mixC
def headD (rs : List (List (List Nat))) : D := match rs with
  | [] => .non
  | r :: _ => wall r
theorem firm_lc (s n : Nat) (hn : s * n ≤ 14) (hs : s ≤ 14) (hn1 : n ≤ 14) (hn0 : 0 < n) (a c d e f g h : Sl) :
    fLc (iSeq (fArgs S_law_every (fCons (fVar 1) (fCons (fVar 2) (fNil))))) (gtName 7) (b_law_right_0) (fVar 7) [7] [a, .fz (.int s), .fz (.int n), c, d, e, f, g, h] = .ret (.lst ((firmC s n).map wall)) := by
  refine lc_eq (e := wall) ?_ (by rw [every_len, zM]; exact Nat.lt_of_le_of_lt (Nat.pow_le_pow_right (by omega) hn) (by decide)) _ _ fun r hr => ?_
  · simp [every_go s n hn hs hn1]
  · refine ⟨_, by simp; rfl, ?_, fun _ => by simp⟩
    obtain ⟨h1, h2⟩ := every_each s n r hr
    have h3 : r ≠ [] := fun z => by subst z; simp at h1; omega
    simp [b_law_right_0]
    rw [loose_go s r h3 (fun w hw => words_each s w (h2 w hw)) (by omega) (by omega)]
    simp
    rw [o_eqNil (ok_map fun _ => rfl), map_isEmpty]
theorem wall_ok (r : List (List Nat)) : D.ok 19 (wall r) = true := by
  show (r.map D.str).all (D.ok 18) = true
  exact ok_map fun _ => rfl
theorem tight_lc (s n : Nat) (hz : (firmC s n).length < 100000) (a b c d e f g h : Sl) (ht : ∀ r, r ∈ firmC s n → r.length < 100) :
    fLc (iSeq (fVar 3)) (gtName 7) (b_law_right_2) (fVar 7) [7] [a, b, c, .fz (.lst ((firmC s n).map wall)), d, e, f, g, h] = .ret (.lst ((tightC s n).map wall)) := by
  refine lc_eq (e := wall) ?_ (by rw [zM]; omega) _ _ fun r hr => ?_
  · simp
  · refine ⟨_, by simp; rfl, ?_, fun _ => by simp⟩
    have hc : ∀ x : Sl, fLc (iSeq (fVar 7)) (gtName 8) (b_law_right_1) (fVar 8) [8] [a, b, c, .fz (.lst ((firmC s n).map wall)), d, e, f, .fz (wall r), x] = .ret (.lst ((r.filter fun w => !mixC w).map D.str)) := fun x => by
      refine lc_eq (e := D.str) ?_ (by have := ht r hr; rw [zM]; omega) _ _ fun w hw => ?_
      · simp [wall]
      · refine ⟨_, by simp; rfl, ?_, fun _ => by simp⟩
        simp only [b_law_right_1, e_fOr, e_fOp, e_fC, bind_ret, b0, bs, v0, vs, o_notInS, mixC]
        by_cases q1 : 105 ∈ w <;> by_cases q2 : 111 ∈ w <;> simp [q1, q2]
    simp [b_law_right_2]
    rw [hc]
    simp
    rw [o_eqNil (ok_map fun _ => rfl), map_isEmpty]
    congr 2
    rw [Bool.eq_iff_iff]
    simp [List.isEmpty_iff, List.filter_eq_nil_iff, List.all_eq_true]
theorem rest_ok (s n : Nat) (hs : s ≤ 14) (hs1 : 1 ≤ s) (F T : List (List (List Nat)))
    (f1 : ∀ c d e f g h, fLc (iSeq (fArgs S_law_every (fCons (fVar 1) (fCons (fVar 2) (fNil))))) (gtName 7) (b_law_right_0) (fVar 7) [7] [.fz .cup, .fz (.int s), .fz (.int n), c, d, e, f, g, h] = .ret (.lst (F.map wall)))
    (f2 : ∀ d e f g h, fLc (iSeq (fVar 3)) (gtName 7) (b_law_right_2) (fVar 7) [7] [.fz .cup, .fz (.int s), .fz (.int n), .fz (.lst (F.map wall)), d, e, f, g, h] = .ret (.lst (T.map wall)))
    (h1 : S_firm_many [.int s, .int n] = .ret (.int F.length)) (h2 : S_tight_many [.int s, .int n] = .ret (.int T.length)) (h3 : S_first_tight [.int s, .int n] = .ret (headD T))
    (h4 : S_firm_with [.int s, .int n, .tup (List.replicate s .non)] = .ret (.int F.length)) (h5 : S_first_with [.int s, .int n, .tup (List.replicate s .non)] = .ret (headD F))
    (p1 : D.plain 5 (.tup [.int F.length, .int T.length, headD T]) = true) (p2 : D.plain 5 (.tup [.int F.length, headD F]) = true) :
    (sSeq p_law_right_1 (sSeq p_law_right_2 (sSeq p_law_right_3 (sSeq p_law_right_4 (sSeq p_law_right_5 p_law_right_6)))) [.fz .cup, .fz (.int s), .fz (.int n), .no, .no, .no, .no, .no, .no]).bind finish = .ret (.bl true) := by
  have hd : ∀ rs : List (List (List Nat)), (if (!(rs.map wall).isEmpty) = true then gIx (.lst (rs.map wall)) (.int 0) else .ret .non) = .ret (headD rs) := fun rs => by
    cases rs with
    | nil => rfl
    | cons r rs => exact ix_natL (xs := wall r :: rs.map wall) (i := 0) rfl
  have hm : gMul (.tup [.non]) (.int s) = .ret (.tup (List.replicate s .non)) := by
    rw [o_mulT (by omega) (by decide) (by omega) (by decide), rep_one]
  simp only [e_sSeq, p_law_right_1, p_law_right_2, p_law_right_3, p_law_right_4, p_law_right_5, p_law_right_6, e_sAsg, e_sRet, e_sIf, e_fUn, e_fArgs, e_fCons, e_fNil, e_fC, e_fIf, e_fOp, f1, f2, bind_ret, then_nx, List.length_cons, List.length_nil, Nat.reduceAdd, Nat.reduceLT, if_true, List.set, vs, v0, h1, h2, h3, h4, h5, o_tup3, o_tup2, o_tup1, o_lenL, List.length_map, o_lst0, o_neNil (ok_map wall_ok), onb_ite, hd, same_refl 5 _ p1, same_refl 5 _ p2, e_gNot, hm, fin_rt, e_sNil, Bool.not_true, Bool.false_eq_true, if_false]
def facts (s n : Nat) : Bool := (S_firm_many [.int s, .int n]).gives (.int (firmC s n).length) && (S_tight_many [.int s, .int n]).gives (.int (tightC s n).length) && (S_first_tight [.int s, .int n]).gives (headD (tightC s n)) &&
  (S_firm_with [.int s, .int n, .tup (List.replicate s .non)]).gives (.int (firmC s n).length) && (S_first_with [.int s, .int n, .tup (List.replicate s .non)]).gives (headD (firmC s n)) &&
  D.plain 5 (.tup [.int (firmC s n).length, .int (tightC s n).length, headD (tightC s n)]) && D.plain 5 (.tup [.int (firmC s n).length, headD (firmC s n)])
theorem rest_of (s n : Nat) (hn : s * n ≤ 14) (hs : s ≤ 14) (hs1 : 1 ≤ s) (hn1 : n ≤ 14) (hn0 : 0 < n) (h : facts s n = true) :
    (sSeq p_law_right_1 (sSeq p_law_right_2 (sSeq p_law_right_3 (sSeq p_law_right_4 (sSeq p_law_right_5 p_law_right_6)))) [.fz .cup, .fz (.int s), .fz (.int n), .no, .no, .no, .no, .no, .no]).bind finish = .ret (.bl true) := by
  have hz : (firmC s n).length < 100000 := by
    have h1 : (firmC s n).length ≤ (every s n).length := List.length_filter_le _ _
    rw [every_len] at h1
    have h2 : 2 ^ (s * n) ≤ 2 ^ 14 := Nat.pow_le_pow_right (by omega) hn
    omega
  have ht : ∀ r, r ∈ firmC s n → r.length < 100 := fun r hr => by
    have := (every_each s n r (List.mem_filter.mp hr).1).1
    omega
  unfold facts at h
  simp only [Bool.and_eq_true] at h
  obtain ⟨⟨⟨⟨⟨⟨h1, h2⟩, h3⟩, h4⟩, h5⟩, p1⟩, p2⟩ := h
  exact rest_ok s n hs hs1 (firmC s n) (tightC s n) (fun c d e f g h => firm_lc s n hn hs hn1 hn0 _ c d e f g h) (fun d e f g h => tight_lc s n hz _ _ _ d e f g h ht)
    (M.by_eval h1) (M.by_eval h2) (M.by_eval h3) (M.by_eval h4) (M.by_eval h5) p1 p2
set_option maxRecDepth 100000
theorem f31 : facts 3 1 = true := by decide +kernel
theorem f32 : facts 3 2 = true := by decide +kernel
theorem f71 : facts 7 1 = true := by decide +kernel
theorem f42 : facts 4 2 = true := by decide +kernel
theorem f33 : facts 3 3 = true := by decide +kernel
theorem f52 : facts 5 2 = true := by decide +kernel
theorem f43 : facts 4 3 = true := by decide +kernel
theorem some_go (xs : List D) (h0 : 0 < xs.length) (hz : xs.length < 1073741824) : S_law_some [.cup, .lst xs] = .draw xs.length fun i => gIx (.lst xs) (.int i) := by
  simp only [r_law_some, B_law_some, e_sRet, e_fOp, e_fArgs, e_fCons, e_fNil, e_fUn, vs, v0, bind_ret, o_lenL, o_roll h0 hz, bind_draw, ret_fin]
def pairs : List D := [.tup [.int 3, .int 1], .tup [.int 3, .int 2], .tup [.int 3, .int 3], .tup [.int 4, .int 2], .tup [.int 4, .int 3], .tup [.int 5, .int 2], .tup [.int 7, .int 1]]
def env0 : Ev := [.fz .cup, .no, .no, .no, .no, .no, .no, .no, .no]
def take2 (x : D) : M Fl := match gtTup [gtName 1, gtName 2] x env0 with
  | some ρ' => .ret (.nx ρ')
  | none => .bad
def tailR : FS := sSeq p_law_right_1 (sSeq p_law_right_2 (sSeq p_law_right_3 (sSeq p_law_right_4 (sSeq p_law_right_5 p_law_right_6))))
theorem first_go : p_law_right_0 env0 = .draw 7 fun i => (gIx (.lst pairs) (.int i)).bind take2 := by
  simp only [p_law_right_0, e_sAsgG, e_fArgs, e_fCons, show fVar 0 env0 = .ret .cup from rfl, e_fC, e_fNil, bind_ret, o_tup2]
  rw [o_lst (by rw [zM]; decide)]
  simp only [bind_ret]
  rw [some_go _ (by decide) (by decide)]
  rfl
theorem turn_go (i s n : Nat) (h1 : (gIx (.lst pairs) (.int i)).bind take2 = .ret (.nx [.fz .cup, .fz (.int s), .fz (.int n), .no, .no, .no, .no, .no, .no])) (hn : s * n ≤ 14) (hs : s ≤ 14) (hs1 : 1 ≤ s) (hn1 : n ≤ 14) (hn0 : 0 < n) (h : facts s n = true) :
    (((gIx (.lst pairs) (.int i)).bind take2).bind (andThen (sSeq p_law_right_1 (sSeq p_law_right_2 (sSeq p_law_right_3 (sSeq p_law_right_4 (sSeq p_law_right_5 p_law_right_6))))))).bind finish = .ret (.bl true) := by
  rw [h1, bind_ret, then_nx, rest_of s n hn hs hs1 hn1 hn0 h]
theorem right_ok : (S_law_right [.cup]).All fun d => d = .bl true := by
  rw [r_law_right]
  unfold B_law_right
  rw [e_sSeq, show [Sl.fz D.cup, Sl.no, Sl.no, Sl.no, Sl.no, Sl.no, Sl.no, Sl.no, Sl.no] = env0 from rfl, first_go]
  simp only [bind_draw, all_draw]
  refine ⟨by decide, fun i hi => ?_⟩
  match i, hi with
  | 0, _ =>
    have t1 : (gIx (.lst pairs) (.int ((0 : Nat) : Int))).bind take2 = .ret (.nx [.fz .cup, .fz (.int ((3 : Nat) : Int)), .fz (.int ((1 : Nat) : Int)), .no, .no, .no, .no, .no, .no]) := rfl
    rw [turn_go 0 3 1 t1 (by decide) (by decide) (by decide) (by decide) (by decide) f31]
    rfl
  | 1, _ =>
    have t1 : (gIx (.lst pairs) (.int ((1 : Nat) : Int))).bind take2 = .ret (.nx [.fz .cup, .fz (.int ((3 : Nat) : Int)), .fz (.int ((2 : Nat) : Int)), .no, .no, .no, .no, .no, .no]) := rfl
    rw [turn_go 1 3 2 t1 (by decide) (by decide) (by decide) (by decide) (by decide) f32]
    rfl
  | 2, _ =>
    have t1 : (gIx (.lst pairs) (.int ((2 : Nat) : Int))).bind take2 = .ret (.nx [.fz .cup, .fz (.int ((3 : Nat) : Int)), .fz (.int ((3 : Nat) : Int)), .no, .no, .no, .no, .no, .no]) := rfl
    rw [turn_go 2 3 3 t1 (by decide) (by decide) (by decide) (by decide) (by decide) f33]
    rfl
  | 3, _ =>
    have t1 : (gIx (.lst pairs) (.int ((3 : Nat) : Int))).bind take2 = .ret (.nx [.fz .cup, .fz (.int ((4 : Nat) : Int)), .fz (.int ((2 : Nat) : Int)), .no, .no, .no, .no, .no, .no]) := rfl
    rw [turn_go 3 4 2 t1 (by decide) (by decide) (by decide) (by decide) (by decide) f42]
    rfl
  | 4, _ =>
    have t1 : (gIx (.lst pairs) (.int ((4 : Nat) : Int))).bind take2 = .ret (.nx [.fz .cup, .fz (.int ((4 : Nat) : Int)), .fz (.int ((3 : Nat) : Int)), .no, .no, .no, .no, .no, .no]) := rfl
    rw [turn_go 4 4 3 t1 (by decide) (by decide) (by decide) (by decide) (by decide) f43]
    rfl
  | 5, _ =>
    have t1 : (gIx (.lst pairs) (.int ((5 : Nat) : Int))).bind take2 = .ret (.nx [.fz .cup, .fz (.int ((5 : Nat) : Int)), .fz (.int ((2 : Nat) : Int)), .no, .no, .no, .no, .no, .no]) := rfl
    rw [turn_go 5 5 2 t1 (by decide) (by decide) (by decide) (by decide) (by decide) f52]
    rfl
  | 6, _ =>
    have t1 : (gIx (.lst pairs) (.int ((6 : Nat) : Int))).bind take2 = .ret (.nx [.fz .cup, .fz (.int ((7 : Nat) : Int)), .fz (.int ((1 : Nat) : Int)), .no, .no, .no, .no, .no, .no]) := rfl
    rw [turn_go 6 7 1 t1 (by decide) (by decide) (by decide) (by decide) (by decide) f71]
    rfl
  | i + 7, h => exact absurd h (by omega)
/-! ### the law -/
theorem is_whole_go (v : Int) : S_is_whole [.int v] = .ret (.bl true) := rfl
theorem fits_whole_go (v lo hi : Int) (h1 : lo ≤ v) (h2 : v ≤ hi) : S_fits_whole [.int v, .int lo, .int hi] = .ret (.bl true) := by
  simp [r_fits_whole, B_fits_whole, is_whole_go, h1, h2]
theorem need_stakes_go (v : Nat) (h1 : 3 ≤ v) (h2 : v ≤ 24) : S_need_stakes [.int v] = .ret .non := by
  simp [r_need_stakes, B_need_stakes, fits_whole_go v 3 24 (by omega) (by omega)]
theorem need_rounds_go (v : Nat) (h1 : 1 ≤ v) (h2 : v ≤ 40) : S_need_rounds [.int v] = .ret .non := by
  simp [r_need_rounds, B_need_rounds, fits_whole_go v 1 40 (by omega) (by omega)]
def lowS (s : Nat) : List Nat := List.replicate (s - 1) 105 ++ [111]
def highS (s : Nat) : List Nat := List.replicate (s - 1) 111 ++ [105]
def firstC (s h : Nat) : List (List Nat) := List.replicate (h - 1) (lowS s) ++ [highS s]
theorem first_tight_go (s h : Nat) (h1 : 3 ≤ s) (h2 : s ≤ 24) (h3 : 2 ≤ h) (h4 : h ≤ 40) : S_first_tight [.int s, .int h] = .ret (wall (firstC s h)) := by
  have e1 : ((s : Int) - 1) = ((s - 1 : Nat) : Int) := by omega
  have e2 : ((h : Int) - 1) = ((h - 1 : Nat) : Int) := by omega
  have ne : ((h : Int) == 1) = false := by
    rw [beq_eq_false_iff_ne]; omega
  simp only [r_first_tight, B_first_tight, p_first_tight_0, p_first_tight_1, p_first_tight_2, p_first_tight_3, p_first_tight_4, e_sSeq, e_sExpr, e_sIf, e_sPar, e_sRet, e_fArgs, e_fCons, e_fNil, e_fC, e_fOp, vs, v0, bind_ret, then_nx, need_stakes_go s h1 h2, need_rounds_go h (by omega) h4, o_eqI, ne, e_onF, e_sNil, o_subI, e1, e2]
  rw [o_mulS (by omega) (by decide), o_mulS (by omega) (by decide), rep_one, rep_one]
  simp only [bind_ret]
  rw [o_addS (by simp [zM]; omega), o_addS (by simp [zM]; omega)]
  simp only [bind_ret, List.length_cons, List.length_nil, Nat.reduceAdd, Nat.reduceLT, and_self, if_true, List.set, then_nx, e_sRet, e_fOp, e_fArgs, e_fCons, e_fNil, e_fC, vs, v0, bind_ret, o_tup1, o_subI, e2]
  rw [o_mulT (by omega) (by simp) (by omega) (by simp), rep_one]
  simp only [bind_ret]
  rw [o_addT (by simp [zM]; omega)]
  simp [wall, firstC, lowS, highS]
theorem loose_none : ((List.range 22).all fun i => (List.range 39).all fun j => (looseC (3 + i) (firstC (3 + i) (2 + j))).isEmpty) = true := by decide +kernel
theorem many_none : ((List.range 22).all fun i => (S_firm_many [.int ((3 + i : Nat) : Int), .int 2]).gives (.int ((2 ^ (3 + i) : Nat) : Int)) && (S_tight_many [.int ((3 + i : Nat) : Int), .int 2]).gives (.int ((2 ^ (3 + i) : Nat) - 2 : Int)) && (S_tight_many [.int ((3 + i : Nat) : Int), .int 1]).gives (.int 0)) = true := by decide +kernel
end K80
end

section
set_option Elab.async false
set_option linter.all false
set_option maxHeartbeats 4000000
open WK
namespace K80
theorem ways_go (s : Nat) (hs : s ≤ 24) (a b c d e f : Sl) : ∃ x, loop (gtName 6) b_law_1 ((List.range s).map fun (i : Nat) => .int (i : Int)) [a, b, c, .fz (.int s), d, .fz (.int 1), e, f] = .ret (.nx [a, b, c, .fz (.int s), d, .fz (.int ((2 ^ s : Nat) : Int)), x, f]) := by
  obtain ⟨ρ', e1, x, h⟩ := loop_pre (g := gtName 6) (b := b_law_1) (e := fun (i : Nat) => D.int (i : Int)) (fun ys ρ => ∃ x, ρ = [a, b, c, .fz (.int s), d, .fz (.int ((2 ^ ys.length : Nat) : Int)), x, f]) (List.range s) [a, b, c, .fz (.int s), d, .fz (.int 1), e, f] ⟨e, rfl⟩ (fun ys i zs ρ hy ⟨x, h⟩ => by
    subst h
    refine ⟨_, ?_, .fz (.int i), rfl⟩
    rw [turn_name (by simp)]
    simp only [b_law_1, e_sAsg, e_fOp, e_fC, List.set, vs, v0, bind_ret]
    rw [o_mulI (by rw [Bool.or_eq_true]; exact .inr (by decide))]
    simp [Nat.pow_succ])
  refine ⟨x, ?_⟩
  rw [e1, h, List.length_range]
theorem tail_go (i j : Nat) (hi : i < 22) (hj : j < 39) (a b c d : Sl) :
    ((sSeq (sFor (iRange1 (fVar 3)) (gtName 6) b_law_1) (sSeq p_law_1 (sSeq p_law_2 p_law_3))) [a, b, c, .fz (.int ((3 + i : Nat) : Int)), .fz (.int ((2 + j : Nat) : Int)), .fz (.int 1), d, .no]) = .ret (.rt (.bl true)) := by
  obtain ⟨x, hx⟩ := ways_go (3 + i) (by omega) a b c (.fz (.int ((2 + j : Nat) : Int))) d .no
  have l1 := List.all_eq_true.mp (List.all_eq_true.mp loose_none i (List.mem_range.mpr hi)) j (List.mem_range.mpr hj)
  have l2 := List.all_eq_true.mp many_none i (List.mem_range.mpr hi)
  simp only [Bool.and_eq_true] at l2
  obtain ⟨⟨m1, m2⟩, m3⟩ := l2
  have m1 := M.by_eval m1
  have m2 := M.by_eval m2
  have m3 := M.by_eval m3
  have ft := first_tight_go (3 + i) (2 + j) (by omega) (by omega) (by omega) (by omega)
  generalize hn : 3 + i = s at *
  generalize hm : 2 + j = h at *
  have lo : S_law_loose [wall (firstC s h)] = .ret (.lst []) := by
    have := loose_go s (firstC s h) (by simp [firstC]) (fun w hw => by
      simp [firstC, lowS, highS] at hw
      rcases hw with hw | hw
      · rw [hw.2]; simp; omega
      · rw [hw]; simp; omega) (by omega) (by simp [firstC]; omega)
    rw [this, List.isEmpty_iff.mp l1]
    rfl
  simp only [e_sSeq, e_sFor, e_iRange1, vs, v0, bind_ret, asRng1_int]
  rw [rng1_nat (by omega)]
  have wl : (firstC s h).length = h := by simp [firstC]; omega
  have gl : gLen (wall (firstC s h)) = .ret (.int h) := by
    unfold wall
    rw [o_lenT, List.length_map, wl]
  have gt : gIsT .tuple (wall (firstC s h)) = .ret (.bl true) := rfl
  have o3 : gTup [.int ((2 ^ s : Nat) : Int), .int (((2 ^ s : Nat) : Int) - 2), .int 0] = .ret (.tup [.int ((2 ^ s : Nat) : Int), .int (((2 ^ s : Nat) : Int) - 2), .int 0]) := rfl
  have sm := same_refl 5 (.tup [.int ((2 ^ s : Nat) : Int), .int (((2 ^ s : Nat) : Int) - 2), .int 0]) rfl
  have hne : (((h : Nat) : Int) == ((h : Nat) : Int)) = true := beq_self_eq_true _
  generalize wall (firstC s h) = W at ft lo gl gt
  simp only [bind_ret, hx, then_nx, e_sSeq, p_law_1, e_sAsg, e_fArgs, e_fCons, e_fNil, vs, v0, ft, List.length_cons, List.length_nil, Nat.reduceAdd, Nat.reduceLT, if_true, List.set, p_law_2, e_sIf, e_fOr, e_fUn, e_fOp, lo, gl, gt, e_gNot, Bool.not_true, e_onF, e_onT, o_neI, hne, o_lst0, o_neNil (xs := []) rfl, List.isEmpty_nil, e_sNil, p_law_3, e_sRet, e_fC, m1, m2, m3, o3, o_subI, sm]
theorem draw_go (k n : Nat) (hn : 0 < n) (h : n < 1073741824) : (fOp gAdd (fC (.int k)) (fArgs gRoll (fCons (fVar 1) (fCons (fC (.int n)) (fNil))))) = fun ρ => (fVar 1 ρ).bind fun c => (gRoll [c, .int n]).bind fun b => gAdd (.int k) b := by
  funext ρ
  simp only [e_fOp, e_fC, bind_ret, e_fArgs, e_fCons, e_fNil, M.bind_assoc]
theorem after (i j : Nat) (hi : i < 22) (hj : j < 39) (a b c d : Sl) (s h : Int) (hs : s = 3 + (i : Int)) (hh : h = 2 + (j : Int)) :
    ((sSeq (sFor (iRange1 (fVar 3)) (gtName 6) b_law_1) (sSeq p_law_1 (sSeq p_law_2 p_law_3))) [a, b, c, .fz (.int s), .fz (.int h), .fz (.int 1), d, .no]) = .ret (.rt (.bl true)) := by
  have e1 : s = ((3 + i : Nat) : Int) := by omega
  have e2 : h = ((2 + j : Nat) : Int) := by omega
  rw [e1, e2]
  exact tail_go i j hi hj a b c d
theorem plain : (lawM 6 B_law).All isTrue1 := by
  unfold lawM B_law
  rw [e_sSeq]
  have h1 : (sFor (iRange1 (fC (.int 2))) (gtName 2) b_law_0 (lawEnv 6)).All fun fl => ∃ t, fl = .nx [.no, .fz .cup, t, .no, .no, .no, .no, .no] := by
    rw [e_sFor, e_iRange1, e_fC, bind_ret, asRng1_int, show (2 : Int) = ((2 : Nat) : Int) from rfl, rng1_nat (by decide), bind_ret]
    refine loop_all (fun ys ρ => ∃ t, ρ = [.no, .fz .cup, t, .no, .no, .no, .no, .no]) _ [] _ ⟨_, rfl⟩ (fun ys x ρ ⟨t, e⟩ hx => ?_) fun ρ ⟨t, e⟩ => ⟨t, by rw [e]⟩
    subst e
    rw [turn_name (by simp)]
    simp only [b_law_0, e_sIf, e_fUn, e_fArgs, e_fCons, e_fNil, List.set, vs, v0, bind_ret]
    refine M.All.bind (M.All.bind right_ok (fun d (hd : d = .bl true) => ?_) : M.All (fun d => d = .bl false) _) fun d hd => ?_
    · rw [hd]; rfl
    · rw [hd]
      exact .inl ⟨_, rfl, _, rfl⟩
  refine M.All.bind (M.All.bind h1 fun fl ⟨t, e⟩ => ?_ : M.All (fun fl => fl = .rt (.bl true)) _) fun fl e => ?_
  · subst e
    rw [then_nx, e_sSeq]
    simp only [p_law_0, e_sPar3, e_fOp, e_fC, e_fArgs, e_fCons, e_fNil, vs, v0, bind_ret]
    rw [show (22 : Int) = ((22 : Nat) : Int) from rfl, show (39 : Int) = ((39 : Nat) : Int) from rfl, o_roll (by decide) (by decide), o_roll (by decide) (by decide)]
    simp only [bind_draw, bind_ret, o_addI, List.length_cons, List.length_nil, Nat.reduceAdd, Nat.reduceLT, and_self, if_true, List.set, then_nx, all_draw]
    refine ⟨by decide, fun i hi => ⟨by decide, fun j hj => ?_⟩⟩
    rw [after i j hi hj _ _ _ _ _ _ rfl rfl]
    rfl
  · rw [e]
    trivial
end K80
end

section
set_option Elab.async false
set_option linter.all false
set_option maxRecDepth 100000
set_option maxHeartbeats 0
namespace K80
open PySem PySem.Spec PyProof.Rows L2 WK
def D_law_cup : He.DefD := ⟨("_law_cup", none), "_law_cup", "_law_cup", defArgs (top 28), defBody (top 28), defScope (top 28), [], []⟩
def D_law_roll : He.DefD := ⟨("_law_roll", none), "_law_roll", "_law_roll", defArgs (top 29), defBody (top 29), defScope (top 29), [], []⟩
def D_law_some : He.DefD := ⟨("_law_some", none), "_law_some", "_law_some", defArgs (top 30), defBody (top 30), defScope (top 30), [], []⟩
def D_law_words : He.DefD := ⟨("_law_words", none), "_law_words", "_law_words", defArgs (top 32), defBody (top 32), defScope (top 32), [], []⟩
def D_law_every : He.DefD := ⟨("_law_every", none), "_law_every", "_law_every", defArgs (top 34), defBody (top 34), defScope (top 34), [], []⟩
def D_law_loose : He.DefD := ⟨("_law_loose", none), "_law_loose", "_law_loose", defArgs (top 33), defBody (top 33), defScope (top 33), [], []⟩
def D_is_whole : He.DefD := ⟨("is_whole", none), "is_whole", "is_whole", defArgs (top 10), defBody (top 10), defScope (top 10), [], []⟩
def D_fits_whole : He.DefD := ⟨("fits_whole", none), "fits_whole", "fits_whole", defArgs (top 11), defBody (top 11), defScope (top 11), [], []⟩
def D_need_stakes : He.DefD := ⟨("need_stakes", none), "need_stakes", "need_stakes", defArgs (top 14), defBody (top 14), defScope (top 14), [], []⟩
def D_need_rounds : He.DefD := ⟨("need_rounds", none), "need_rounds", "need_rounds", defArgs (top 16), defBody (top 16), defScope (top 16), [], []⟩
def D_power : He.DefD := ⟨("power", none), "power", "power", defArgs (top 19), defBody (top 19), defScope (top 19), [], []⟩
def D_firm_many : He.DefD := ⟨("firm_many", none), "firm_many", "firm_many", defArgs (top 21), defBody (top 21), defScope (top 21), [], []⟩
def D_choices : He.DefD := ⟨("choices", none), "choices", "choices", defArgs (top 20), defBody (top 20), defScope (top 20), [], []⟩
def D_tight_many : He.DefD := ⟨("tight_many", none), "tight_many", "tight_many", defArgs (top 22), defBody (top 22), defScope (top 22), [], []⟩
def D_first_tight : He.DefD := ⟨("first_tight", none), "first_tight", "first_tight", defArgs (top 23), defBody (top 23), defScope (top 23), [], []⟩
def D_law_same : He.DefD := ⟨("_law_same", none), "_law_same", "_law_same", defArgs (top 31), defBody (top 31), defScope (top 31), [], []⟩
def D_is_tuple_of : He.DefD := ⟨("is_tuple_of", none), "is_tuple_of", "is_tuple_of", defArgs (top 12), defBody (top 12), defScope (top 12), [], []⟩
def D_fits_signs : He.DefD := ⟨("fits_signs", none), "fits_signs", "fits_signs", defArgs (top 13), defBody (top 13), defScope (top 13), [], []⟩
def D_is_told : He.DefD := ⟨("is_told", none), "is_told", "is_told", defArgs (top 26), defBody (top 26), defScope (top 26), [], []⟩
def D_need_told : He.DefD := ⟨("need_told", none), "need_told", "need_told", defArgs (top 18), defBody (top 18), defScope (top 18), [], []⟩
def D_is_mixed : He.DefD := ⟨("is_mixed", none), "is_mixed", "is_mixed", defArgs (top 17), defBody (top 17), defScope (top 17), [], []⟩
def D_firm_with : He.DefD := ⟨("firm_with", none), "firm_with", "firm_with", defArgs (top 24), defBody (top 24), defScope (top 24), [], []⟩
def D_first_with : He.DefD := ⟨("first_with", none), "first_with", "first_with", defArgs (top 25), defBody (top 25), defScope (top 25), [], []⟩
def D_law_right : He.DefD := ⟨("_law_right", none), "_law_right", "_law_right", defArgs (top 35), defBody (top 35), defScope (top 35), [], []⟩
def D_law : He.DefD := ⟨("law", none), "law", "law", defArgs (top 36), defBody (top 36), defScope (top 36), [], []⟩
def fn : List He.DefD := [D_law_cup, D_law_roll, D_law_some, D_law_words, D_law_every, D_law_loose, D_is_whole, D_fits_whole, D_need_stakes, D_need_rounds, D_power, D_firm_many, D_choices, D_tight_many, D_first_tight, D_law_same, D_is_tuple_of, D_fits_signs, D_is_told, D_need_told, D_is_mixed, D_firm_with, D_first_with, D_law_right, D_law]
def fa : List He.Fa := [.glo "_law_cup", .glo "_law_roll", .glo "_law_some", .glo "_law_words", .glo "_law_every", .glo "_law_loose", .glo "is_whole", .glo "fits_whole", .glo "need_stakes", .glo "need_rounds", .glo "power", .glo "firm_many", .glo "choices", .glo "tight_many", .glo "first_tight", .glo "_law_same", .glo "is_tuple_of", .glo "fits_signs", .glo "is_told", .glo "need_told", .glo "is_mixed", .glo "firm_with", .glo "first_with", .glo "_law_right", .glo "law", .free "abs", .free "all", .free "bool", .free "int", .free "isinstance", .free "len", .free "list", .free "range", .free "set", .free "str", .free "tuple", .str "SIGNS" "io", .int "LEAST" (3), .int "STAKES" (24), .int "HIGH" (40)]
abbrev R : PySem.W.OpenRow := PySem.W.OpenLaw.row PySem.Challenge.rw_wickerwork_k80_whole_rounds_that_hold
abbrev hk : PySem.W.Hook := He.hookD 4 fa fn
def ob (s : PySem.W.SharedT) : He.AlD := He.obsDG 4 fa fn (HandSHeadRun.getT s)
theorem ob_eq (s : PySem.W.SharedT) : ob s = hk.obs s.abs := He.obsDG_eq (HandSHeadRun.getT_eq s)
def loose0 : List PySem.Str := ["WickerError", "InvalidStakes", "InvalidPlaces", "InvalidNumber", "SIGNS", "LEAST", "STAKES", "HIGH", "is_whole", "fits_whole", "is_tuple_of", "fits_signs", "need_stakes", "need_rounds", "is_mixed", "need_told", "power", "choices", "firm_many", "tight_many", "first_tight", "firm_with", "first_with", "is_told", "_law_cup", "_law_roll", "_law_some", "_law_same", "_law_words", "_law_loose"]
def loose1 : List PySem.Str := ["_law_every", "_law_right"]
abbrev loose : List PySem.Str := loose0 ++ loose1
theorem run (w : World) : HandSHeadRun.RunEq R (PySem.W.view R.prog [36]) hk ob 4000 loose w := by
  intro os
  kernel_rfl
theorem tops {K : PySem.W.Frag} {h : Heap} {mg : Str → Option Value} (X : K.In h) (G : h.Ns mainGlobals mg) (c : He.SaysD fa fn K) : Tops K mg := by
  constructor
  · obtain ⟨fd, F⟩ := c.def_ 0 (d := D_law_cup) rfl
    exact ⟨_, fd, He.glo_ok X G (c.fact 0 (f := .glo "_law_cup") rfl), F⟩
  · obtain ⟨fd, F⟩ := c.def_ 1 (d := D_law_roll) rfl
    exact ⟨_, fd, He.glo_ok X G (c.fact 1 (f := .glo "_law_roll") rfl), F⟩
  · obtain ⟨fd, F⟩ := c.def_ 2 (d := D_law_some) rfl
    exact ⟨_, fd, He.glo_ok X G (c.fact 2 (f := .glo "_law_some") rfl), F⟩
  · obtain ⟨fd, F⟩ := c.def_ 3 (d := D_law_words) rfl
    exact ⟨_, fd, He.glo_ok X G (c.fact 3 (f := .glo "_law_words") rfl), F⟩
  · obtain ⟨fd, F⟩ := c.def_ 4 (d := D_law_every) rfl
    exact ⟨_, fd, He.glo_ok X G (c.fact 4 (f := .glo "_law_every") rfl), F⟩
  · obtain ⟨fd, F⟩ := c.def_ 5 (d := D_law_loose) rfl
    exact ⟨_, fd, He.glo_ok X G (c.fact 5 (f := .glo "_law_loose") rfl), F⟩
  · obtain ⟨fd, F⟩ := c.def_ 6 (d := D_is_whole) rfl
    exact ⟨_, fd, He.glo_ok X G (c.fact 6 (f := .glo "is_whole") rfl), F⟩
  · obtain ⟨fd, F⟩ := c.def_ 7 (d := D_fits_whole) rfl
    exact ⟨_, fd, He.glo_ok X G (c.fact 7 (f := .glo "fits_whole") rfl), F⟩
  · obtain ⟨fd, F⟩ := c.def_ 8 (d := D_need_stakes) rfl
    exact ⟨_, fd, He.glo_ok X G (c.fact 8 (f := .glo "need_stakes") rfl), F⟩
  · obtain ⟨fd, F⟩ := c.def_ 9 (d := D_need_rounds) rfl
    exact ⟨_, fd, He.glo_ok X G (c.fact 9 (f := .glo "need_rounds") rfl), F⟩
  · obtain ⟨fd, F⟩ := c.def_ 10 (d := D_power) rfl
    exact ⟨_, fd, He.glo_ok X G (c.fact 10 (f := .glo "power") rfl), F⟩
  · obtain ⟨fd, F⟩ := c.def_ 11 (d := D_firm_many) rfl
    exact ⟨_, fd, He.glo_ok X G (c.fact 11 (f := .glo "firm_many") rfl), F⟩
  · obtain ⟨fd, F⟩ := c.def_ 12 (d := D_choices) rfl
    exact ⟨_, fd, He.glo_ok X G (c.fact 12 (f := .glo "choices") rfl), F⟩
  · obtain ⟨fd, F⟩ := c.def_ 13 (d := D_tight_many) rfl
    exact ⟨_, fd, He.glo_ok X G (c.fact 13 (f := .glo "tight_many") rfl), F⟩
  · obtain ⟨fd, F⟩ := c.def_ 14 (d := D_first_tight) rfl
    exact ⟨_, fd, He.glo_ok X G (c.fact 14 (f := .glo "first_tight") rfl), F⟩
  · obtain ⟨fd, F⟩ := c.def_ 15 (d := D_law_same) rfl
    exact ⟨_, fd, He.glo_ok X G (c.fact 15 (f := .glo "_law_same") rfl), F⟩
  · obtain ⟨fd, F⟩ := c.def_ 16 (d := D_is_tuple_of) rfl
    exact ⟨_, fd, He.glo_ok X G (c.fact 16 (f := .glo "is_tuple_of") rfl), F⟩
  · obtain ⟨fd, F⟩ := c.def_ 17 (d := D_fits_signs) rfl
    exact ⟨_, fd, He.glo_ok X G (c.fact 17 (f := .glo "fits_signs") rfl), F⟩
  · obtain ⟨fd, F⟩ := c.def_ 18 (d := D_is_told) rfl
    exact ⟨_, fd, He.glo_ok X G (c.fact 18 (f := .glo "is_told") rfl), F⟩
  · obtain ⟨fd, F⟩ := c.def_ 19 (d := D_need_told) rfl
    exact ⟨_, fd, He.glo_ok X G (c.fact 19 (f := .glo "need_told") rfl), F⟩
  · obtain ⟨fd, F⟩ := c.def_ 20 (d := D_is_mixed) rfl
    exact ⟨_, fd, He.glo_ok X G (c.fact 20 (f := .glo "is_mixed") rfl), F⟩
  · obtain ⟨fd, F⟩ := c.def_ 21 (d := D_firm_with) rfl
    exact ⟨_, fd, He.glo_ok X G (c.fact 21 (f := .glo "firm_with") rfl), F⟩
  · obtain ⟨fd, F⟩ := c.def_ 22 (d := D_first_with) rfl
    exact ⟨_, fd, He.glo_ok X G (c.fact 22 (f := .glo "first_with") rfl), F⟩
  · obtain ⟨fd, F⟩ := c.def_ 23 (d := D_law_right) rfl
    exact ⟨_, fd, He.glo_ok X G (c.fact 23 (f := .glo "_law_right") rfl), F⟩
  · exact He.free_ok X G (c.fact 25 (f := .free "abs") rfl)
  · exact He.free_ok X G (c.fact 26 (f := .free "all") rfl)
  · exact He.free_ok X G (c.fact 27 (f := .free "bool") rfl)
  · exact He.free_ok X G (c.fact 28 (f := .free "int") rfl)
  · exact He.free_ok X G (c.fact 29 (f := .free "isinstance") rfl)
  · exact He.free_ok X G (c.fact 30 (f := .free "len") rfl)
  · exact He.free_ok X G (c.fact 31 (f := .free "list") rfl)
  · exact He.free_ok X G (c.fact 32 (f := .free "range") rfl)
  · exact He.free_ok X G (c.fact 33 (f := .free "set") rfl)
  · exact He.free_ok X G (c.fact 34 (f := .free "str") rfl)
  · exact He.free_ok X G (c.fact 35 (f := .free "tuple") rfl)
  · exact He.str_ok X G (c.fact 36 (f := .str "SIGNS" "io") rfl)
  · exact He.int_ok X G (c.fact 37 (f := .int "LEAST" (3)) rfl)
  · exact He.int_ok X G (c.fact 38 (f := .int "STAKES" (24)) rfl)
  · exact He.int_ok X G (c.fact 39 (f := .int "HIGH" (40)) rfl)
theorem head_facts (plain : (lawM 6 B_law).All isTrue1) {P : Program} {w : World} {K : PySem.W.Frag} {h : Heap} {mg : Str → Option Value} {f : Addr} (X : K.In h) (G : h.Ns mainGlobals mg) (hfa : mg ("law" : Str) = some (.ref f)) (c : He.SaysD fa fn K) :
    ∃ fd : FuncData, (∀ (s : Shared) (v : Value), BindsTo s fd ⟨[v], []⟩ [("script", v)]) ∧ ∀ base : Heap, K.In base → base.Ns mainGlobals mg → FnOk P w K mg base CX0 9 f fd ["script"] (spLaw K) := by
  obtain ⟨fd, F⟩ := c.def_ 24 (d := D_law) rfl
  have e := hfa.symm.trans (He.glo_ok X G (c.fact 24 (f := .glo "law") rfl))
  cases e
  have b := FunD.bindsA (ps := ["script"]) F fun _ _ _ _ _ _ us hl => match us, hl with | [_], _ => rfl
  exact ⟨fd, fun s v => b s [v] rfl, fun base _ _ => ok_law (tops X G c) plain F⟩
end K80
open PySem PySem.W PySem.Calls PyProof.Rows
theorem K80.holds_of (plain : (WK.lawM 6 K80.B_law).All WK.isTrue1) : PySem.Challenge.rw_wickerwork_k80_whole_rounds_that_hold.Holds := by
  w_on; o_law
  refine HandSHeadRun.head_any (r := OpenLaw.row PySem.Challenge.rw_wickerwork_k80_whole_rounds_that_hold) (q := view (OpenLaw.row PySem.Challenge.rw_wickerwork_k80_whole_rounds_that_hold).prog [36]) (H := K80.hk) (ob := K80.ob) (M := 4000) (loose := K80.loose) (d := HandSHeadRun.topDef (OpenLaw.row PySem.Challenge.rw_wickerwork_k80_whole_rounds_that_hold).prog 36) (kwd := []) K80.ob_eq
    (by kernel_rfl) (fun s => by kernel_rfl) K80.run (by kernel_rfl) (by kernel_rfl) (by kernel_rfl) (by rfl) (by first | assumption | decide +kernel) (by decide +kernel) ⟨rfl, rfl, rfl, rfl, rfl, by decide +kernel⟩ ?hw ?hc
  case hw => w_witness2
  case hc =>
    refine L2.walk_ofE (l := PySem.Challenge.rw_wickerwork_k80_whole_rounds_that_hold) (n := 63) (k := 9) (x := "script") (CX := L2.CX0) rfl (by decide) (by kernel_rfl) ⟨rfl, by decide, by decide⟩ ?F (fun _ _ _ _ z => z)
    intro w mg fa h Y G hmg0
    obtain ⟨K, KX, c⟩ := Y
    have hmg : mg ("law" : PySem.Str) = some (.ref fa) := by
      have e : (HandSHeadRun.topDef (OpenLaw.row PySem.Challenge.rw_wickerwork_k80_whole_rounds_that_hold).prog 36).name = ("law" : PySem.Str) := by kernel_rfl
      rw [← e]
      exact hmg0
    obtain ⟨fd, hb, hF⟩ := K80.head_facts plain (P := (PySem.Challenge.rw_wickerwork_k80_whole_rounds_that_hold).prog) (w := w) KX G hmg c
    exact ⟨K, fd, WK.spLaw K, KX, hb, fun H a ns hl _ hS => ⟨a, ns, rfl, hS, hl, fun _ => rfl⟩, hF⟩
end

theorem PySem.Challenge.cw_wickerwork_k80_whole_rounds_that_hold_holds : PySem.Challenge.rw_wickerwork_k80_whole_rounds_that_hold.Holds := by
  exact K80.holds_of K80.plain
